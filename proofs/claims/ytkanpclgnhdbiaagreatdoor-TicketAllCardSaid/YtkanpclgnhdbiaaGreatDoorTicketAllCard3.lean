/- A part of the proof. -/
import Derived.Test.YtkanpclgnhdbiaaGreatDoorTicketAllCard2
import Derived.Conc.CrowdStepC
import Derived.Conc.LeavingOf
import Derived.Conc.AtomicLaws
import Derived.Conc.AtomicLaws2
import Derived.Conc.MarkLaws
import Derived.Conc.SmallLaws
import Derived.Laws.LoneSync
import Derived.KernelRfl
import Derived.Test.YtkanpclgnhdbiaaGreatDoorProg
import Derived.Conc.TokenWalk
set_option linter.all false
set_option maxRecDepth 4000
set_option maxHeartbeats 4000000
open Array renaming all_eq_true_iff_forall_mem->VM,append_assoc->Yv,empty_append->Yu,ext'->WT,getD_eq_getD_getElem?->Ti,getElem?_eq_getElem->Tn,getElem?_eq_some_iff->T5,getElem?_push->Yl,getElem?_setIfInBounds->Xs,getElem?_setIfInBounds_ne->T6,getElem?_setIfInBounds_self_of_lt->Ug,getElem_mem->YV,isEmpty_empty->Z2,mem_iff_getElem?->ZF,replicate->UT,size->axq
open BitVec renaming ofInt->Vj
open Bool renaming and_eq_true->Uh,eq_iff_iff->Vh,false_or->Y_,not_eq_true'->U0,not_false->Yt,not_true->af',true_or->Z1
open Classical renaming byContradiction->Uz
open Eq renaming trans->W1
open Function renaming comp_def->Zy
open Go renaming Addr->WC,CallKind->Yh,Code->U_,Deferred->Yd,Event->XH,Frame->VR,FrameMode->Wo,Func->ZD,FuncId->UW,GStep->aq_,Goroutine->Tj,IntKind->U3,Machine->axZ,MemOp->Xj,Oper->Vo,Operand->Ur,Program->Tl,Trace->Vq,Value->Uf,World->Uu,mark->axv,step->axu
open Go.Conc renaming Deaf->VZ,Deaf_other->ayb,Good->X0,Knows->Xq,QuitsD->Z8,act?_of->axz,casT_eq->axe,crowd_pick->aw9,deaf_succ->axo,finishComm_recv->Zx,finishComm_send->axy,getElem?_stand->Zd,heard_old->Xu,knows_own->ae',lt_size_of_getElem?->UQ,mem_ofEvents->UU,mem_of_getElem?->YU,offersAt_of_not_blocked->Wc,offersAt_parked_send->ar_,offersAt_ph->aj_,runT_crowd_spawn->axn,seen_none->axm,served->U9,stepG_entry->aq',stepG_same->Yg,stepG_value->aya,touch_of->Wb,woken_run->Zl
open Go.Conc.QuitsD renaming status->ar'
open Go.ConcN renaming le_sumTo->XD,sumTo_congr->Wz
open Go.Event renaming mute->XG
open Go.Extern.Atomic renaming casT->XV,loadT->Y7,storeT->YT,update->YS
open Go.Extern.Race renaming marked->WY,none_->X9
open Go.Extern.Sync renaming semacquire->XF,semrelease->YR
open Go.GStep renaming after->U8
open Go.Goroutine.mk renaming injEq->axx
open Go.Instr renaming loadAt->YB,sureAddr->Wq
open Go.IntKind renaming i64->Tg,u32->axG,u64->UE,wrap->Yf
open Go.MemAct renaming ofEvent->Uw
open Go.MemOp renaming ofEvents->Ui
open Go.Obj renaming deferred->ayj
open Go.Op renaming intArith->ayi
open Go.Operand renaming const->ayh,tmp->ax7
open Go.Proofs.Tryz renaming f60->axO,f77->YN,prog->S_
open Go.Region renaming wanted->Up
open Go.Result renaming ok->Zh
open Go.Sem renaming runT_eq->UF
open Go.Trace renaming g?->XB
open Go.Value renaming bool->Yj,chan->YQ,int->Th
open Go.World renaming cell?->VC,frozen?->aw4,setChan->Xl
open Int renaming ofNat_inj->axb,toNat_natCast->WU
open List renaming any_cons->ZT,any_eq_true->U5,append_assoc->Te,append_nil->To,cons_append->Wv,drop->U4,drop_eq_nil_of_le->U2,eq_nil_of_length_eq_zero->VG,ext_getElem?->Zo,filter_append->XO,findIdx?_eq_none_iff->Zf,findIdx?_eq_some_iff_getElem->Yx,foldl_append->Xo,foldl_cons->VO,forall_mem_cons->VQ,getD_eq_getElem?_getD->Tf,getElem?_append_left->T4,getElem?_append_right->Ud,getElem?_drop->Vs,getElem?_eq_getElem->Tw,getElem?_eq_none->Vy,getElem?_eq_some_iff->Tq,getElem?_map->Ut,getElem?_range->av',getElem?_set->VT,getElem?_set_ne->U6,getElem?_toArray->Wt,getElem_mem->W_,getLast?_eq_some_getLast->YP,getLastD_eq_getLast?->WB,getLast_mem->ak',head?_append->XQ,length_append->Tt,length_cons->Ve,length_filter_le->WX,length_map->Ue,length_nil->VL,length_pos_iff->Wp,length_range->Y4,length_singleton->UJ,mapM_cons->Vb,mapM_nil->VH,mapM_toArray->Y3,map_append->Uq,map_cons->Wd,mem_append->Tv,mem_append_left->Ul,mem_append_right->T_,mem_cons->Tm,mem_flatMap->T9,mem_iff_getElem?->VU,mem_map->Uo,mem_of_getElem?->T8,mem_range->UN,mem_replicate->YL,mem_singleton->Ub,mem_toArray->UR,nil_append->VK,nodup_append->V_,nodup_nil->XM,nodup_range->Y1,not_mem_nil->T7,range->T1,range_succ->VW,replicate->UP,set_append_left->VX,set_cons_succ->VI,set_cons_zero->U7,set_set->Ya,take->VN,take_add_one->UZ,take_append_of_le_length->UA,take_length->Un,take_of_length_le->Tx,take_succ_cons->Xb,take_succ_eq_append_getElem->Wx
open List.cons renaming inj->WM
open Nat renaming add_sub_cancel_left->US,add_zero->VA,eq_zero_or_pos->Vu,le_refl->Ts,le_trans->UK,lt_of_lt_of_le->Uk,lt_succ_self->Vv,reduceAdd->Tu,reduceEqDiff->ao_
open Option renaming bind_eq_bind->UX,bind_eq_some_iff->Um,getD_none->WA,getD_some->Ua,map_eq_some_iff->Uv,map_some->VS,pure_def->Vk
open Option.some renaming inj->WV,injEq->Us
open Prod.mk renaming inj->X2,injEq->We
namespace Go.Gg
open Go.Conc Go.ConcN
section
variable {P:Tl}{n0:Nat}{W0:Uu}{V:View}{gs gs':SQ}{w w':Uu}{sl:S6}{t:Vq}{K:Nat->GS}{Im:cG}{ic:Nat}{p:Phase}{st st':TG}
def RF{t:Vq}{g i j:Nat}(hi:t.g? i=some g)(hj:t.g? j=some g)(h:i<=j):Before t i j:=by
 rcases Nat.eq_or_lt_of_le h with rfl|h
 ·exact .inl rfl
 ·obtain⟨a,ha,rfl⟩:=Uv.1 hi;obtain⟨b,hb,hg⟩:=Uv.1 hj;exact .inr (.single (.inl ⟨h,by simp[XB,ha,hb,hg]⟩))
def Inv.aha(h:Inv P n0 W0 V gs w t K Im ic (some p) st)(aN:p.recv=true){n:Nat}{gi:Tj}(aQ:gs[ic]?=some gi)(hK:K ic=.acq n)(jX:uZ P Im p.c p.Wg (VZ t ic) gi):g_ P n0 W0 V gs w sl t K Im ic (some p) st ic:=by
 obtain⟨s,hs,gQ,jk,hm⟩:=h.mode aN;obtain⟨m1,m2,m3,m4,m5⟩:=hm.Rj (.inr (by rw[hK];rfl));obtain⟨hd,bQ,g',aP,n',cu⟩:=jX;have oo:∀e∈#[kz (.acquire (eE p.Wg))],e=kz (.acquire (eE p.Wg)):=λe he=>by simpa using he
 have acv:g'.status=.running:=cY.running (λd g x=>x.2.1) cu;refine h.uQ aN (k':=.look n') (s':=.got) gQ aQ (aP w) (by rw[hd];exact cu) (by rw[hK];exact IQ Im) (λ_=>rfl) rfl (λj hj=>by rw[hK]at hj;cases hj) (.inl rfl) (λe he x hx=> ?_) (λe he=> ?_) (λe he a=> ?_) rfl (λ_ _ _=>rfl) rfl rfl rfl
  ?_ (.inl m1) ?_ (zV jk (by rw[hK];exact .inl (by simp[GS.dg])))
 ·rw[oo e he]at hx;cases hx
 ·rw[oo e he];exact h.low.2
 ·rw[oo e he];simp[kz,Uw]
 ·unfold Mode;have e1:sumTo gs.size (λi=>(upd K ic (.look n') i).cnt)=0:=by rw[lT K (.look n') GS.cnt (by rw[hK];rfl)];exact m4
  have e2:sumTo gs.size (λi=>(upd K ic (.look n') i).late)=0:=by rw[lT K (.look n') GS.late (by rw[hK];rfl)];exact m3
  simp only[e1,e2,bG];exact .inr (.inr (.inr (.inr (.inr (.inl ⟨m1,trivial,trivial,trivial,.inl rfl⟩)))))
 ·have hr:Rest p.Wg t K ic st:=h.out.2.2.1;rw[hs,m2]at hr;rw[ofEvents_one];refine hr.app (λidx a ha hx=> .inr ?_) (λidx a _ ⟨op,az,_,hx⟩ _=> ?_)
  ·obtain⟨i,M5,eU,hx⟩:=hx;have anm:=h.core.ti.norel;have own:t.g? idx=some ic->Xq (t++#[{g:=ic,fn:=gi.frame.fn,pos:=gi.frame.place,act:=.ofEvent (kz (.acquire (eE p.Wg)))}]) ic idx:=λe=>by
    obtain⟨op,ho,p_⟩:=Uv.1 e;rw[<- p_];exact(ae' ho).app _
   rcases hx with hx|rfl|⟨r,qa,hle⟩
   ·exfalso;have am6:i<gs.size:=by
     obtain⟨op,ho,p_⟩:=Uv.1 M5;rw[<- p_];exact h.core.ti.gs op (YU ho)
    have gz:(K i).cnt=1:=by cases lB:K i<;>rw[lB]at hx<;>first|rfl|cases hx
    have hle:(K i).cnt<=sumTo gs.size λi=>(K i).cnt:=XD (f:=λi=>(K i).cnt) am6;omega
   ·exact own M5
   ·exact ahb qa.act qa.heard anm ⟨rfl,rfl⟩ hd (RF M5 qa.g hle)
  ·simp only[UR,Tm,T7,or_false]at az;subst az;cases hx
def Rest.got{Wg:Nat}(hr:Rest Wg t K ic (some .got)){es:SP}{fn:UW}{pos:String}{K':Nat->GS}:Rest Wg (t++Ui ic fn pos es) K' ic (some .got):=by
 refine hr.app (λidx a ha hx=> .inr (Knows.app _ hx)) (λidx a _ ⟨op,az,de,_⟩ _=> .inr (.inr ?_));obtain⟨e,_,rfl⟩:=UU az;exact ae' de
def Inv.apK(h:Inv P n0 W0 V gs w t K Im ic (some p) st)(aN:p.recv=true){n:Nat}{gi:Tj}(aQ:gs[ic]?=some gi)(hK:K ic=.look n)(jX:J' P Im p.c (VZ t ic) gi):g_ P n0 W0 V gs w sl t K Im ic (some p) st ic:=by
 obtain⟨s,hs,gQ,jk,hm⟩:=h.mode aN;obtain⟨m1,m2,m3,m4⟩:=hm.Rk (.inl (by rw[hK];rfl));obtain⟨hd,bQ,b,o,x,g',l9,aP,n',cu⟩:=jX;have fV:Sat ((K ic).view Im) w:=by have:=h.core.sat ic jk;rwa[show bO V Im K ic=(K ic).view Im by simp[bO];omega]at this
 have MN:=fV.ai b o x (by rw[hK];exact l9);have hb:=fV.Fa (show ((K ic).view Im).ai b o=some x by rw[hK];exact l9);have oo:∀e∈(#[⟨.cell ⟨b,o,none⟩,false,false⟩]:SP),e=⟨.cell ⟨b,o,none⟩,false,false⟩:=λe he=>by simpa using he
 have cT:=h.blind gQ;refine h.uQ aN (k':=.close n') (s':=.got) gQ aQ (aP w MN) (by rw[hd];exact cu) (by rw[hK];exact apu Im) (λ_=>rfl) rfl (λj hj=>by rw[hK]at hj;cases hj) (.inl rfl) (λe he y hy=> .inr (.inr ?_)) (λe he=> ?_) (λe he a=> ?_) rfl (λ_ _ _=>rfl) rfl rfl rfl
  ?_ (.inl m1) ?_ (zV jk (by rw[hK];exact .inl (by simp[GS.dg])))
 ·rw[oo e he]at hy;cases hy;refine⟨λdP=> ?_,.inr (by rw[hK];show Im b o≠none;rw[l9];simp),rfl⟩;have e1:b=p.Wg:=dP;have:=cT.2.2.2 o;rw[hK]at this;have e2:Im p.Wg o=none:=this;rw[<- e1,l9]at e2;cases e2
 ·rw[oo e he];exact hb
 ·rw[oo e he];simp[Uw]
 ·unfold Mode;have e1:sumTo gs.size (λi=>(upd K ic (.close n') i).cnt)=0:=by rw[lT K (.close n') GS.cnt (by rw[hK];rfl)];exact m4
  have e2:sumTo gs.size (λi=>(upd K ic (.close n') i).late)=0:=by rw[lT K (.close n') GS.late (by rw[hK];rfl)];exact m3
  simp only[e1,e2,bG];exact .inr (.inr (.inr (.inr (.inr (.inl ⟨m1,trivial,trivial,trivial,.inr rfl⟩)))))
 ·have hr:Rest p.Wg t K ic st:=h.out.2.2.1;rw[hs,m2]at hr;exact hr.got
def Inv.aiS(h:Inv P n0 W0 V gs w t K Im ic (some p) st)(aN:p.recv=true){n:Nat}{gi:Tj}(aQ:gs[ic]?=some gi)(hK:K ic=.close n)(jX:J9 P p.c (VZ t ic) gi):g_ P n0 W0 V gs w sl t K Im ic (some p) st ic:=by
 obtain⟨s,hs,gQ,jk,hm⟩:=h.mode aN;obtain⟨⟨nn,m1⟩,m2,m3,m4⟩:=hm.Rk (.inr (by rw[hK];rfl));obtain⟨hd,bQ,Ns,g',aP,q,fJ⟩:=jX;have mf:=aP w nn m1;have gk:∀e∈(#[⟨.obj p.c,false,true⟩,⟨.obj p.c,true,true⟩]:SP),e=⟨.obj p.c,false,true⟩\/e=⟨.obj p.c,true,true⟩:=λe he=>by simpa using he
 have Nv:∀j,0<j->j<gs.size->j≠ic->(K j).idx=none:=λj _ hj _=>by
  have hle:(K j).cnt<=sumTo gs.size λi=>(K i).cnt:=XD (f:=λi=>(K i).cnt) hj;exact GS.acL (by omega)
 have M7:g'.status=.running\/g'.status=.finished:=ar' fJ;have su:p.c≠p.Wg:=h.phase.2.2.1;have MO:=h.low.1;have eu:Ui ic gi.frame.fn gi.frame.place #[⟨.obj p.c,false,true⟩,⟨.obj p.c,true,true⟩]=#[{g:=ic,fn:=gi.frame.fn,pos:=gi.frame.place,act:=.ofEvent ⟨.obj p.c,false,true⟩},{g:=ic,fn:=gi.frame.fn,pos:=gi.frame.place,act:=.close p.c}]:=by simp[Ui,Uw]
 have g1:=sf (t:=t) (show (#[({g:=ic,fn:=gi.frame.fn,pos:=gi.frame.place,act:=.ofEvent ⟨.obj p.c,false,true⟩}:Xj),{g:=ic,fn:=gi.frame.fn,pos:=gi.frame.place,act:=.close p.c}]:Vq)[1]?=some _ from rfl);have ov:∀op∈(#[({g:=ic,fn:=gi.frame.fn,pos:=gi.frame.place,act:=.ofEvent ⟨.obj p.c,false,true⟩}:Xj),{g:=ic,fn:=gi.frame.fn,pos:=gi.frame.place,act:=.close p.c}]:Vq),still op.act:=by
  intro op az;simp only[UR,Tm,T7,or_false]at az;rcases az with rfl|rfl<;>exact⟨by simp[Uw],by simp[Uw]⟩
 have abG:∃n,({w with heap:=w.heap.setIfInBounds p.c (.chan 0 #[] true nn nn false)}:Uu).heap[p.c]?=some (.chan 0 #[] true n n false):=⟨nn,by simp[MO]⟩;refine h.uQ aN (k':=.gone q) (s':=.shut (t.size+1)) gQ aQ mf (by rw[hd];exact fJ) (by rw[hK];exact IR _) (λ_=>rfl) rfl (λj hj=>by rw[hK]at hj;cases hj) (.inl rfl) (λe he x hx=> .inl ?_) (λe he=> ?_) (λe he a=> ?_) (by simp) (λb hb _=>by simp[Xs,Ne.symm hb]) rfl rfl rfl
  ?_ (.inr ⟨Nv,λg hg=>aq3 gQ hg Ns M7 abG⟩) ?_ (zV jk (by rw[hK];exact .inl (by simp[GS.dg])))
 ·rcases gk e he with rfl|rfl
  ·cases hx;exact⟨rfl,rfl⟩
  ·cases hx
 ·rcases gk e he with rfl|rfl
  ·exact MO
  ·exact MO
 ·rcases gk e he with rfl|rfl<;>simp[Uw]
 ·unfold Mode;have e1:sumTo gs.size (λi=>(upd K ic (.gone q) i).cnt)=0:=by rw[lT K (.gone q) GS.cnt (by rw[hK];rfl)];exact m4
  have e2:sumTo gs.size (λi=>(upd K ic (.gone q) i).late)=0:=by rw[lT K (.gone q) GS.late (by rw[hK];rfl)];exact m3
  simp only[e1,e2,bG];obtain⟨n,hn⟩:=abG;refine .inr (.inr (.inr (.inr (.inr (.inr ⟨⟨t.size+1,n,rfl,?_,?_,hn⟩,trivial,trivial,rfl⟩)))))
  ·rw[eu];exact axz g1
  ·rw[eu];exact heard_new (k:=1) rfl rfl (by rw[vn ov (by simp)];exact hd)
 ·have hr:Rest p.Wg t K ic st:=h.out.2.2.1;rw[hs,m2]at hr;rw[eu];refine hr.app (λidx a ha hx=> .inr (.inr (Knows.hb_new hx (by omega) g1 rfl))) (λidx a hi ⟨op,az,de,_⟩ _=> .inr (.inr ?_));have hlt:idx<t.size+2:=by have:=UQ de;simpa using this
  have p_:op.g=ic:=by
   simp only[UR,Tm,T7,or_false]at az;rcases az with rfl|rfl<;>rfl
  exact RF (g:=ic) (by simp[XB,de,p_]) (by simp[XB,g1]) (by omega)
structure Gs (P:Tl)(n0:Nat)(W0:Uu)(V:View)(gs:Array Tj)(w:Uu)(sl:Option (Nat×Nat))(t:Vq)(Im:cG)(ic:Nat)(p:Phase)(st:Option eO)(g:Tj)(i:Nat):Prop where
 intro::
 met:∃gs' w' ops K' j sp S v ln Ow,runT P (crowd gs w sl) i=(.next (crowd gs' w' sl),ops)/\gs'.size=gs.size/\kN gs' (U9 g (.tuple #[v,.bool true]))/\p.Ss[j]?=some (sp::S)/\sp v ln Ow/\(∀b,V.own b≠none->Ow b=none)/\(∀b o,V.own b≠none->ln b o≠none->V.ai b o≠none)/\
  (∃w,Sat V w/\(∀b o x,ln b o=some x->w.cell? ⟨b,o,none⟩=some x)/\∀b x,Ow b=some x->w.heap[b]?=some x)/\
  Inv P n0 W0 (oA V ln Ow (.recv p.c p.Wg (p.Ss.set j S))) gs' w' (t++ops) K' Im ic (some {p with Ss:=p.Ss.set j S}) st
def Inv.atg(h:Inv P n0 W0 V gs w t K Im ic (some p) st)(aN:p.recv=true)(ii:V.deaf=0){g:Tj}(hm:oJ gs g p.c){i j:Nat}{gi:Tj}{hh h':Ht}{Vi V₁:View}{c Wg:Nat}{sp:Spec}{S:TJ}{v z:Uf}{B:Nat->Bool}(hi:0<i)(aQ:gs[i]?=some gi)
  (hK:K i=.work j hh Vi) (hg:ey Vi V₁) (hr:V₁.role=.work c Wg (sp::S)) (hd:V₁.deaf=0) (aP:stepG P false gi w=.comm gi #[scase c v z] true .send w #[])
  (pf:sp v V₁.ai (mr B V₁)) (hk:lX P h' (ml B V₁ (.work c Wg S)) (U9 gi undef)):Gs P n0 W0 V gs w sl t Im ic p st g i:=by
 have hlt:i<gs.size:=(T5.1 aQ).1;have dx:=h.is i gi hi aQ;simp only[hK,GS.is]at dx;obtain⟨bI,_,S',hS,jF⟩:=dx;rw[hg.role,jF]at hr;cases hr;have gz:(K i).cnt=1:=by rw[hK];rfl
 obtain⟨⟨n,im⟩,lL⟩:=h.counted hi hlt gz;have eU:(i==0)=false:=by simp;omega
 obtain⟨g0,z0,h0,lE,jj,nm⟩:=hm;have hp:partners (gs.setIfInBounds i ph) p.c false=[(0,0)]:=by
  have Hp:(gs.setIfInBounds i ph)[0]?=some (parked g0 #[rcase p.c z0] (.recv true)):=by rw[T6 (by omega)];exact h0
  rw[partners_one Hp (λm x hm hx=> ?_),offersAt_parked_recv]
  ·simp
  ·rcases Zd gs i m x hx with⟨_,rfl⟩|⟨_,jY⟩
   ·exact aj_ _ _
   ·exact adX (h.is m x (by omega) jY) _
 have bQ:=crowd_send_meets (P:=P) (sl:=sl) (i:=i) aQ (by rw[eU];exact aP) im (by omega) h0 hp;rw[Zx,axy]at bQ;have mO:(K i).view Im=Vi:=by rw[hK];rfl
 have aZ:((gs.setIfInBounds 0 (U9 g0 (recvd true v true))).setIfInBounds i (U9 gi undef)).size=gs.size:=by simp
 have bf:VZ t i=0:=by rw[bI,<- hg.deaf,hd]
 have EN:Sat V₁ w:=by
  have:=h.core.sat i hlt;rw[show bO V Im K i=(K i).view Im by simp[bO];omega,mO]at this;exact hg.sat w this
 have NQ:Sat V w:=by have:=h.core.sat 0 h.pos;rwa[show bO V Im K 0=V by simp[bO]]at this
 have vW:=h.met (gs':=(gs.setIfInBounds 0 (U9 g0 (recvd true v true))).setIfInBounds i (U9 gi undef)) (w':=w.setChan p.c 0 #[] false (n+1) (n+1) false) (gi:=gi) (h':=h') (V₁:=V₁) (S:=S) (sp:=sp) (B:=B) aN ii hi hlt (by rw[hK];rfl) (by rw[mO];exact hg) (by rw[hg.role,jF]) hd bf hS hk aZ
  (by rw[Ug (by simpa using hlt)]) (λm hm eB=>by rw[T6 (Ne.symm hm),T6 (by omega)])
  (u:=Ui i gi.frame.fn gi.frame.place #[]++#[{g:=i,fn:=gi.frame.fn,pos:=gi.frame.place,act:=.send p.c n},{g:=0,fn:=g0.frame.fn,pos:=g0.frame.place,act:=.recv p.c n 0},
    {g:=i,fn:=gi.frame.fn,pos:=gi.frame.place,act:=.sendDone p.c n},{g:=0,fn:=g0.frame.fn,pos:=g0.frame.place,act:=.recvDone p.c n}]) (s:=n) (by simp only[Ui,Z2,if_true,Yu];rfl) ⟨rfl,rfl⟩ ⟨rfl,rfl⟩ ⟨rfl,rfl⟩ ⟨rfl,rfl⟩
  (by simp[Xl]) (λb hb=>by simp[Xl,Xs,Ne.symm hb]) ⟨n+1,by simp[Xl,h.low.1]⟩ rfl rfl rfl
 refine⟨_,_,_,_,j,sp,S,v,V₁.ai,mr B V₁,bQ,aZ,⟨U9 g0 (recvd true v true),?_,rfl,?_,jj,nm⟩,hS,pf,vW.1,vW.2.1,⟨w,NQ,EN.ai,λb x e=> ?_⟩,vW.2.2⟩
 ·rw[T6 (by omega),Ug h.pos]
 ·simp only[U9,lE];rfl
 ·unfold mr at e;split at e
  ·exact EN.own b x e
  ·cases e
def Inv.asj(h:Inv P n0 W0 V gs w t K Im ic (some p) st)(aN:p.recv=true)(ii:V.deaf=0){g:Tj}{z:Uf}(hm:kN gs g)(aP:stepG P true g w=.comm g #[rcase p.c z] true (.recv true) w #[])
  (hw:∃i j h' V₁ V₂ g1 v z1,0<i/\i<gs.size/\K i=.oG j h' V₁ V₂ g1 v z1):Gs P n0 W0 V gs w sl t Im ic p st g 0:=by
 obtain⟨g0,h0,hf0,lE,jj,nm⟩:=hm;have lL:stepG P (0==0) g0 w=.comm g #[rcase p.c z] true (.recv true) w #[]:=by rw[<- aP];exact Yg lE jj nm w
 obtain⟨i0,j0,a0,a1,a2,a3,a4,a5,b0,b1,b2⟩:=hw;have amz:(K i0).cnt=1:=by rw[b2];rfl
 obtain⟨⟨n,im⟩,Io⟩:=h.counted b0 b1 amz;have sQ:gs[i0]?=some gs[i0]:=Tn b1;have eT:∀j k,(j,k)∈partners (gs.setIfInBounds 0 ph) p.c true->k=0/\j≠0/\∃gj vj zj Qc,gs[j]?=some (parked gj #[scase p.c vj zj] Qc):=by
  intro j k hjk;obtain⟨x,hx,hk⟩:=mem_partners.1 hjk;rcases Zd gs 0 j x hx with⟨_,rfl⟩|⟨vR,jY⟩
  ·rw[aj_]at hk;cases hk
  ·rcases GS.runs (h.is j x (by omega) jY)with hr|⟨hf,_⟩|⟨q,h',V1,V2,g1,v,z1,e⟩|⟨_,hb,ho⟩
   ·rw[Wc (by rw[hr];simp)]at hk;cases hk
   ·rw[Wc (by rw[hf];simp)]at hk;cases hk
   ·have:=h.is j x (by omega) jY;simp only[e,GS.is]at this;obtain⟨_,_,rfl,_⟩:=this;rw[ar_]at hk;simp at hk;exact⟨hk,vR,g1,v,z1,.send,jY⟩
   ·have:offersAt x p.c true=[]:=(by unfold offersAt;simp[hb,ho]);rw[this]at hk;cases hk
 have aF:partners (gs.setIfInBounds 0 ph) p.c true≠[]:=by
  intro e;have gk:(i0,0)∈partners (gs.setIfInBounds 0 ph) p.c true:=by
   have:=h.is i0 _ b0 sQ;simp only[b2,GS.is]at this;obtain⟨_,_,jE,_⟩:=this;refine mem_partners.2 ⟨gs[i0],by rw[T6 (by omega)];exact sQ,?_⟩;rw[jE,ar_];simp
  rw[e]at gk;cases gk
 obtain⟨i,gj,vj,zj,Qc,d,eU,aQ,bQ⟩:=crowd_recv_meets_some (P:=P) (sl:=sl) h0 lL im aF eT;have hi:0<i:=by omega
 have hlt:i<gs.size:=(T5.1 aQ).1;obtain⟨j,h',V₁,V₂,g1,v,z1,hK⟩:∃j h' V₁ V₂ g1 v z1,K i=.oG j h' V₁ V₂ g1 v z1:=by
  rcases GS.runs (h.is i _ hi aQ)with hr|⟨hf,_⟩|x|⟨_,_,ho⟩
  ·cases hr
  ·cases hf
  ·exact x
  ·cases ho
 have dx:=h.is i _ hi aQ;simp only[hK,GS.is]at dx;obtain⟨bI,hd,jE,hk,sp,S,B,hS,jF,pf,Bg⟩:=dx;have efr:gj.frame=g1.frame/\gj.callers=g1.callers/\gj.dying=g1.dying/\vj=v/\zj=z1/\Qc=.send:=by
  simp only[parked,axx,Us,We]at jE;obtain⟨e1,e2,_,e3,e4,e5⟩:=jE;simp[scase]at e4;exact⟨e1,e2,e3,e4.1,e4.2,e5⟩
 obtain⟨e1,e2,e3,rfl,rfl,rfl⟩:=efr;have esv:U9 gj undef=U9 g1 undef:=by simp[U9,e1,e2,e3]
 rw[axy,Zx,esv]at bQ;subst Bg;have mO:(K i).view Im=V₁:=by rw[hK];rfl
 have aZ:((gs.setIfInBounds i (U9 g1 undef)).setIfInBounds 0 (U9 g (recvd true vj true))).size=gs.size:=by simp
 have EN:Sat V₁ w:=by
  have:=h.core.sat i hlt;rwa[show bO V Im K i=(K i).view Im by simp[bO];omega,mO]at this
 have NQ:Sat V w:=by have:=h.core.sat 0 h.pos;rwa[show bO V Im K 0=V by simp[bO]]at this
 have vW:=h.met (gs':=(gs.setIfInBounds i (U9 g1 undef)).setIfInBounds 0 (U9 g (recvd true vj true))) (w':=(w.at d).setChan p.c 0 #[] false (n+1) (n+1) false) (gi:=g1) (h':=h') (V₁:=V₁) (S:=S) (sp:=sp) (B:=B) aN ii hi hlt (by rw[hK];rfl) (by rw[mO];exact ey.refl _) jF hd bI hS hk aZ
  (by rw[T6 (by omega),Ug hlt]) (λm hm eB=>by rw[T6 (by omega),T6 (Ne.symm hm)])
  (u:=Ui 0 g0.frame.fn g0.frame.place #[]++#[{g:=i,fn:=gj.frame.fn,pos:=gj.frame.place,act:=.send p.c n},{g:=0,fn:=g.frame.fn,pos:=g.frame.place,act:=.recv p.c n 0},
    {g:=i,fn:=gj.frame.fn,pos:=gj.frame.place,act:=.sendDone p.c n},{g:=0,fn:=g.frame.fn,pos:=g.frame.place,act:=.recvDone p.c n}]) (s:=n) (by simp only[Ui,Z2,if_true,Yu];rfl) ⟨rfl,rfl⟩ ⟨rfl,rfl⟩ ⟨rfl,rfl⟩ ⟨rfl,rfl⟩
  (by simp[Xl,World.at]) (λb hb=>by simp[Xl,World.at,Xs,Ne.symm hb]) ⟨n+1,by simp[Xl,World.at,h.low.1]⟩ rfl rfl rfl
 refine⟨_,_,_,_,j,sp,S,vj,V₁.ai,mr B V₁,bQ,aZ,⟨U9 g (recvd true vj true),?_,rfl,rfl,rfl,rfl⟩,hS,pf,vW.1,vW.2.1,⟨w,NQ,EN.ai,λb x e=> ?_⟩,vW.2.2⟩
 ·rw[Ug (by simpa using h.pos)]
 ·unfold mr at e;split at e
  ·exact EN.own b x e
  ·cases e
end
section
variable {P:Tl}{n0:Nat}{W0:Uu}{V:View}{gs gs':SQ}{w w':Uu}{sl:S6}{t:Vq}{K:Nat->GS}{Im:cG}{ic:Nat}{ph:TB}{p:Phase}{st st':TG}
def Inv.uR(h:Inv P n0 W0 V gs w t K Im ic (some p) st){i n:Nat}{gi:Tj}{Stop:S0}{mk:Nat->GS}(hi:0<i)(aQ:gs[i]?=some gi)(hK:K i=mk n)(cu:cY P Stop n (VZ t i) gi)
  (mK:∀n d g,cY P Stop n d g->(mk n).is P p.c p.Wg Im p.Ss d g) (dP:∀n m,(mk n).shape=(mk m).shape) (N6:∀n m,(mk n).view Im=(mk m).view Im) (NN:∀n,rP (mk n).dg (mk (n+1)).dg) (BO:∀d g,Stop d g->g.status=.running)
  (hgo:Stop (VZ t i) gi->g_ P n0 W0 V gs w sl t K Im ic (some p) st i):g_ P n0 W0 V gs w sl t K Im ic (some p) st i:=by
 cases n with
 |zero=>exact hgo cu
 |succ n=>
  rcases cu with hs|⟨hr,g',es,hm,aP,hs⟩
  ·exact hgo hs
  ·exact h.slip (k':=mk n) hi aQ (aP w) hm (mK _ _ _ hs) (λx=>by rw[cY.running BO hs]at x;cases x) (by rw[hK];exact dP _ _) (by rw[hK];exact N6 _ _) (λ_=>cY.running BO hs) (by rw[hK];exact NN n)
def Inv.aeX(h:Inv P n0 W0 V gs w t K Im ic (some p) st){i n:Nat}{gi:Tj}{Stop:S0}{mk:Nat->GS}(hi:0<i)(aQ:gs[i]?=some gi)(hK:K i=mk n)(hW:∃x y,WgAt P p.Wg w x y)(cu:iJ P p.Wg Stop n (VZ t i) gi)
  (mK:∀n d g,iJ P p.Wg Stop n d g->(mk n).is P p.c p.Wg Im p.Ss d g) (dP:∀n m,(mk n).shape=(mk m).shape) (N6:∀n m,(mk n).view Im=(mk m).view Im) (NN:∀n,rP (mk n).dg (mk (n+1)).dg) (BO:∀d g,Stop d g->g.status=.running)
  (hgo:Stop (VZ t i) gi->g_ P n0 W0 V gs w sl t K Im ic (some p) st i):g_ P n0 W0 V gs w sl t K Im ic (some p) st i:=by
 cases n with
 |zero=>exact hgo cu
 |succ n=>
  rcases cu with hs|⟨hr,g',es,hm,aP,hs⟩
  ·exact hgo hs
  ·exact h.slip (k':=mk n) hi aQ (aP w _ _ hW.choose_spec.choose_spec) hm (mK _ _ _ hs) (λx=>by rw[iJ.running BO hs]at x;cases x) (by rw[hK];exact dP _ _) (by rw[hK];exact N6 _ _) (λ_=>iJ.running BO hs) (by rw[hK];exact NN n)
def Inv.other(h:Inv P n0 W0 V gs w t K Im ic ph st){g:Tj}(p8:kN gs g\/∃p,ph=some p/\p.recv=true/\V.deaf=0/\oJ gs g p.c){i:Nat}{gi:Tj}(hi:0<i)(aQ:gs[i]?=some gi)(bQ:gi.status=.running):
  g_ P n0 W0 V gs w sl t K Im ic ph st i\/∃p,ph=some p/\Gs P n0 W0 V gs w sl t Im ic p st g i/\oJ gs g p.c:=by
 have hlt:i<gs.size:=(T5.1 aQ).1;have dx:=h.out.1 i gi hi aQ;have gone:∀q,K i=.gone q->Z8 P q (VZ t i) gi->g_ P n0 W0 V gs w sl t K Im ic ph st i:=by
  intro q hK hq;cases q with
  |zero=>rw[hq.1]at bQ;cases bQ
  |succ q=>
   rcases hq with⟨hf,_⟩|⟨_,g',es,hm,aP,ut⟩
   ·rw[hf]at bQ;cases bQ
   ·refine h.slip (k':=.gone q) hi aQ (aP w) hm ?_ (λx=>by rcases ut.status with e|e<;>rw[e]at x<;>cases x) (by rw[hK];rfl) (by rw[hK];rfl) (λx=>by rw[hK]at x;rcases x with x|x<;>cases x) (by rw[hK];exact .inr ⟨rfl,.inr ⟨rfl,Vv _⟩⟩);cases ph with
    |none=>exact⟨q,rfl,ut⟩
    |some p=>exact ut
 cases ph with
 |none=>
  obtain⟨q,hK,hq⟩:=dx;exact .inl (gone q hK hq)
 |some p=>
  have fB:(K i).is P p.c p.Wg Im p.Ss (VZ t i) gi:=dx;have ri:(K i).idx=none->(∀q,K i≠ .gone q)->p.recv=true:=λh1 h2=>by
   cases aN:p.recv with
   |true=>rfl
   |false=>
    have hx:=h.phase.2.2.2.2.2.2.2.2.2;rw[if_neg (by rw[aN];simp)]at hx;rcases hx.2.2.2.1 i hi hlt with x|⟨q,x⟩
    ·rw[h1]at x;cases x
    ·exact absurd x (h2 q)
  cases hK:K i with
  |gone q=>rw[hK]at fB;exact .inl (gone q hK fB)
  |oG j h' V1 V2 g0 v z=>
   rw[hK]at fB;obtain⟨_,_,rfl,_⟩:=fB;cases bQ
  |work j hh Vi=>
   rw[hK]at fB;obtain⟨hd,N8,S,hS,jF⟩:=fB;have mO:bO V Im K i=Vi:=(by simp[bO,hK,GS.view];omega);have fV:Sat Vi w:=(by have:=h.core.sat i hlt;rwa[mO]at this);cases N8 with
   |step G' W' E' V' hs hg h1 h2 h3=>
    exact .inl (h.af4 hi aQ hK (h1 w (hg.sat w fV)) (du.sZ hg (h2 w (hg.sat w fV))) (h3 w (hg.sat w fV)) (.mk _ w))
   |send c Wg sp S1 v z B hs hg hr cm ho h1 h2 h3=>
    have er:nJ.work p.c p.Wg S=.work c Wg (sp::S1):=(by rw[<- jF,<- hg.role,hr]);cases er;rcases p8 with hm|⟨p',BH,aN,ii,hm⟩
    ·exact .inl (h.avn hm hi aQ hK hg hr cm (h1 w (hg.sat w fV)) h2 h3)
    ·cases BH;exact .inr ⟨p,rfl,h.atg aN ii hm hi aQ hK hg hr cm (h1 w (hg.sat w fV)) h2 h3,hm⟩
   |done c Wg hg hr cm h1=>
    have er:nJ.work p.c p.Wg S=.work c Wg []:=(by rw[<- jF,<- hg.role,hr]);cases er;refine .inl (h.release ?_ hi aQ hK hg hr cm h1);cases aN:p.recv with
    |true=>rfl
    |false=>
     have hx:=h.phase.2.2.2.2.2.2.2.2.2;rw[if_neg (by rw[aN];simp)]at hx;exact absurd rfl (hx.2.2.2.2.1 [] (T8 hS))
   |slip c Wg hs hg hr h1 h3=>
    have er:nJ.work p.c p.Wg S=.work c Wg []:=(by rw[<- jF,<- hg.role,hr]);cases er;have aN:p.recv=true:=by
     cases aN:p.recv with
     |true=>rfl
     |false=>
      have hx:=h.phase.2.2.2.2.2.2.2.2.2;rw[if_neg (by rw[aN];simp)]at hx;exact absurd rfl (hx.2.2.2.2.1 [] (T8 hS))
    obtain⟨s,hW⟩:=h.aiY aN hlt (by rw[hK];rfl);exact .inl (h.af4 hi aQ hK (h1 w s (hg.sat w fV) hW) (du.sZ hg (du.idle (hg.sat w fV))) h3 (CR.mk (λ_=>_) w))
  |add n=>
   rw[hK]at fB;have aN:=ri (by rw[hK];rfl) (λq=>by rw[hK];simp);exact .inl (h.uR (mk:=.add) hi aQ hK fB (λ_ _ _ x=>x) (λ_ _=>rfl) (λ_ _=>rfl) (λn=> .inr ⟨rfl,.inr ⟨rfl,Vv _⟩⟩) (λ_ _ x=>x.2.1) (λhs=>h.ahe aN hi aQ hK hs))
  |load n=>
   rw[hK]at fB;have aN:=ri (by rw[hK];rfl) (λq=>by rw[hK];simp);exact .inl (h.uR (mk:=.load) hi aQ hK fB (λ_ _ _ x=>x) (λ_ _=>rfl) (λ_ _=>rfl) (λn=> .inr ⟨rfl,.inr ⟨rfl,Vv _⟩⟩) (λ_ _ x=>x.2.1) (λhs=>h.apJ aN hi aQ hK hs))
  |store n=>
   rw[hK]at fB;have aN:=ri (by rw[hK];rfl) (λq=>by rw[hK];simp);exact .inl (h.uR (mk:=.store) hi aQ hK fB (λ_ _ _ x=>x) (λ_ _=>rfl) (λ_ _=>rfl) (λn=> .inr ⟨rfl,.inr ⟨rfl,Vv _⟩⟩) (λ_ _ x=>x.2.1) (λhs=>h.auc aN hi aQ hK hs))
  |mX n=>
   rw[hK]at fB;have aN:=ri (by rw[hK];rfl) (λq=>by rw[hK];simp);exact .inl (h.uR (mk:=.mX) hi aQ hK fB (λ_ _ _ x=>x) (λ_ _=>rfl) (λ_ _=>rfl) (λn=> .inr ⟨rfl,.inr ⟨rfl,Vv _⟩⟩) (λ_ _ x=>x.2.1) (λhs=>h.atf aN hi aQ hK hs))
  |head k n=>
   rw[hK]at fB;have aN:=ri (by rw[hK];rfl) (λq=>by rw[hK];simp);have gB:i=ic:=h.tn hi (by rw[hK];rfl);exact .inl (h.uR (mk:=.head k) hi aQ hK fB (λ_ _ _ x=>x) (λ_ _=>rfl) (λ_ _=>rfl) (λn=> .inr ⟨rfl,.inr ⟨rfl,Vv _⟩⟩) (λ_ _ x=>abO x) (λhs=>by subst gB;exact h.amU aN aQ hK hs))
  |mD v n=>
   rw[hK]at fB;have aN:=ri (by rw[hK];rfl) (λq=>by rw[hK];simp);have gB:i=ic:=h.tn hi (by rw[hK];rfl);exact .inl (h.uR (mk:=.mD v) hi aQ hK fB (λ_ _ _ x=>x) (λ_ _=>rfl) (λ_ _=>rfl) (λn=> .inr ⟨rfl,.inr ⟨rfl,Vv _⟩⟩) (λ_ _ x=>x.2.1) (λhs=>by subst gB;exact h.aiK aN aQ hK hs))
  |said n=>
   rw[hK]at fB;have aN:=ri (by rw[hK];rfl) (λq=>by rw[hK];simp);have gB:i=ic:=h.tn hi (by rw[hK];rfl);exact .inl (h.aeX (mk:=.said) hi aQ hK (h.Q_ aN (n:=n) (.inr (by rw[<- gB];exact hK))) fB (λ_ _ _ x=>x) (λ_ _=>rfl) (λ_ _=>rfl) (λn=> .inr ⟨rfl,.inr ⟨rfl,Vv _⟩⟩) (λ_ _ x=>x.2.1) (λhs=>by subst gB;exact h.asT aN aQ hK hs))
  |iL n=>
   rw[hK]at fB;have aN:=ri (by rw[hK];rfl) (λq=>by rw[hK];simp);have gB:i=ic:=h.tn hi (by rw[hK];rfl);rcases fB with fB|⟨_,g1,rfl,_⟩
   ·exact .inl (h.uR (mk:=.iL) hi aQ hK fB (λ_ _ _ x=> .inl x) (λ_ _=>rfl) (λ_ _=>rfl) (λn=> .inr ⟨rfl,.inr ⟨rfl,Vv _⟩⟩) (λ_ _ x=>x.2.1) (λhs=>by subst gB;exact h.aiZ aN aQ hK hs))
   ·cases bQ
  |last n=>
   rw[hK]at fB;have aN:=ri (by rw[hK];rfl) (λq=>by rw[hK];simp);have gB:i=ic:=h.tn hi (by rw[hK];rfl);exact .inl (h.uR (mk:=.last) hi aQ hK fB (λ_ _ _ x=>x) (λ_ _=>rfl) (λ_ _=>rfl) (λn=> .inr ⟨rfl,.inr ⟨rfl,Vv _⟩⟩) (λ_ _ x=>x.2.1) (λhs=>by subst gB;exact h.ao1 aN aQ hK hs))
  |acq n=>
   rw[hK]at fB;have aN:=ri (by rw[hK];rfl) (λq=>by rw[hK];simp);have gB:i=ic:=h.tn hi (by rw[hK];rfl);exact .inl (h.aeX (mk:=.acq) hi aQ hK (h.Q_ aN (n:=n) (.inl (by rw[<- gB];exact hK))) fB (λ_ _ _ x=>x) (λ_ _=>rfl) (λ_ _=>rfl) (λn=> .inr ⟨rfl,.inr ⟨rfl,Vv _⟩⟩) (λ_ _ x=>x.2.1) (λhs=>by subst gB;exact h.aha aN aQ hK hs))
  |look n=>
   rw[hK]at fB;have aN:=ri (by rw[hK];rfl) (λq=>by rw[hK];simp);have gB:i=ic:=h.tn hi (by rw[hK];rfl);exact .inl (h.uR (mk:=.look) hi aQ hK fB (λ_ _ _ x=>x) (λ_ _=>rfl) (λ_ _=>rfl) (λn=> .inr ⟨rfl,.inr ⟨rfl,Vv _⟩⟩) (λ_ _ x=>x.2.1) (λhs=>by subst gB;exact h.apK aN aQ hK hs))
  |close n=>
   rw[hK]at fB;have aN:=ri (by rw[hK];rfl) (λq=>by rw[hK];simp);have gB:i=ic:=h.tn hi (by rw[hK];rfl);exact .inl (h.uR (mk:=.close) hi aQ hK fB (λ_ _ _ x=>x) (λ_ _=>rfl) (λ_ _=>rfl) (λn=> .inr ⟨rfl,.inr ⟨rfl,Vv _⟩⟩) (λ_ _ x=>x.2.1) (λhs=>by subst gB;exact h.aiS aN aQ hK hs))
def Inv.awake(h:Inv P n0 W0 V gs w t K Im ic ph st){g:Tj}(p8:kN gs g\/∃p,ph=some p/\p.recv=true/\V.deaf=0/\oJ gs g p.c):∀x∈gs,awake x:=by
 intro x hx;obtain⟨i,hi⟩:=ZF.1 hx;rcases Vu i with rfl|eU
 ·rcases p8 with⟨g0,h0,h1,_⟩|⟨p,_,_,_,g0,z,h0,_⟩
  ·rw[hi]at h0;cases h0;intro s;rw[h1];simp
  ·rw[hi]at h0;cases h0;intro s;simp[parked]
 ·have dx:=h.out.1 i x eU hi;intro s;cases ph with
  |none=>
   obtain⟨q,_,hq⟩:=dx;rcases hq.status with e|e<;>rw[e]<;>simp
  |some p=>
   rcases GS.runs (show (K i).is P p.c p.Wg Im p.Ss (VZ t i) x from dx)with e|⟨e,_⟩|⟨j,h',V1,V2,g1,v,z,e⟩|⟨_,e,_⟩
   ·rw[e];simp
   ·rw[e];simp
   ·have fB:(K i).is P p.c p.Wg Im p.Ss (VZ t i) x:=dx;rw[e]at fB;obtain⟨_,_,rfl,_⟩:=fB;simp[parked]
   ·rw[e];simp
end
def Ok (P:Tl)(Post:Uf->Uu->Prop)(m:axZ)(t:Vq):Prop:=
 ∃M last o w' t',runNT P (M+1) m t=(.ended o w',t')/\runN P M m=.next last/\step P last=.ended o w'/\X0 P Post last o w' t'
section
variable {P:Tl}{Post:Uf->Uu->Prop}
def Ok.step{m m':axZ}{t:Vq}{ops:Array Xj}(hs:stepT P m=(.next m',ops))(h:Ok P Post m' (t++ops)):Ok P Post m t:=by
 obtain⟨M,last,o,w',t',h1,h2,h3,h4⟩:=h;refine⟨M+1,last,o,w',t',?_,?_,h3,h4⟩
 ·rw[runNT,hs];exact h1
 ·have:axu P m=.next m':=by unfold axu;rw[hs]
  rw[runN,this];exact h2
def Ok.end{m:axZ}{t:Vq}{o:Outcome}{w':Uu}{ops:Array Xj}(hs:stepT P m=(.ended o w',ops))(h:X0 P Post m o w' (t++ops)):Ok P Post m t:=by
 refine⟨0,m,o,w',t++ops,?_,rfl,?_,h⟩
 ·simp[runNT,hs]
 ·unfold axu;rw[hs]
end
section
variable {P:Tl}{n0:Nat}{W0:Uu}{V:View}{gs gs':SQ}{w w':Uu}{sl:S6}{t:Vq}{K:Nat->GS}{Im:cG}{ic:Nat}{ph:TB}{p:Phase}{st st':TG}
def Inv.draw(h:Inv P n0 W0 V gs w t K Im ic ph st)(d:Nat):Inv P n0 W0 V gs (w.at d) t K Im ic ph st:=
 let⟨a,b,c,e⟩:=h.out
 Inv.mk' h.pos h.k0 h.d0 a (b.draw d) c (by cases ph<;>exact e)
def Qj{f:Nat->Nat}:∀{N:Nat},0<sumTo N f->∃i,i<N/\0<f i
 |0,h=>by simp[sumTo]at h
 |N+1,h=>by
  by_cases hN:0<f N
  ·exact⟨N,by omega,hN⟩
  ·obtain⟨i,hi,hf⟩:=Qj (N:=N) (f:=f) (by rw[sumTo]at h;omega);exact⟨i,by omega,hf⟩
def Inv.att(h:Inv P n0 W0 V gs w t K Im ic (some p) st)(aN:p.recv=true)(ho:AD w p.c)(uf:Calm gs):∃i gi,0<i/\gs[i]?=some gi/\gi.status=.running:=by
 obtain⟨s,hs,gQ,jk,hm⟩:=h.mode aN;have h0:=h.k0;have DL:gs[ic]?=some gs[ic]:=Tn jk;have awx:(K ic).is P p.c p.Wg Im p.Ss (VZ t ic) gs[ic]:=h.is ic _ gQ DL;have run:∀i x,0<i->gs[i]?=some x->(∀q,K i≠ .gone q)->(∀n,K i≠ .iL n)->x.status=.running:=by
  intro i x hi hx h1 h2;rcases GS.runs (show (K i).is P p.c p.Wg Im p.Ss (VZ t i) x from h.is i x hi hx)with e|⟨_,q,e⟩|⟨j,h',V1,V2,g1,v,z,e⟩|⟨⟨n,e⟩,_⟩
  ·exact e
  ·exact absurd e (h1 q)
  ·have cI:=h.is i x hi hx;simp only[e,GS.is]at cI;obtain⟨_,_,jE,_⟩:=cI;have:=uf i x hi hx (by rw[jE];rfl);rw[jE]at this;cases this
  ·exact absurd e (h2 n)
 have Oh:(∀q,K ic≠ .gone q)->(∀n,K ic≠ .iL n)->∃i gi,0<i/\gs[i]?=some gi/\gi.status=.running:=λa b=>⟨ic,_,gQ,DL,run ic _ gQ DL a b⟩;have other:∀i,i<gs.size->(K i).cnt=1\/(K i).late=1->∃i gi,0<i/\gs[i]?=some gi/\gi.status=.running:=by
  intro i hi hc;have eU:0<i:=by
   rcases Vu i with rfl|x
   ·rw[h0]at hc;rcases hc with c|c<;>cases c
   ·exact x
  exact⟨i,_,eU,Tn hi,run i _ eU (Tn hi) (λq e=>by rw[e]at hc;rcases hc with c|c<;>cases c) (λq e=>by rw[e]at hc;rcases hc with c|c<;>cases c)⟩
 have one:∀i,0<(K i).cnt->(K i).cnt=1:=λi hi=>by cases e:K i<;>rw[e]at hi<;>first|rfl|exact absurd hi (by simp[GS.cnt])
 have aqN:∀i,0<(K i).late->(K i).late=1:=λi hi=>by cases e:K i<;>rw[e]at hi<;>first|rfl|exact absurd hi (by simp[GS.late])
 unfold Mode at hm;rcases hm with m|m|m|m|m|m|m
 ·rcases m.2.2.2.2.2 with⟨k,e,_⟩|⟨v,e,_⟩<;>exact Oh (λq x=>by rw[x]at e;cases e) (λq x=>by rw[x]at e;cases e)
 ·obtain⟨i,hi,hc⟩:=Qj (N:=gs.size) (f:=λi=>(K i).cnt) (by have:=m.2.2.2.1;omega);exact other i hi (.inl (one i hc))
 ·obtain⟨i,hi,hc⟩:=Qj (N:=gs.size) (f:=λi=>(K i).late) (by have:=m.2.2.1;omega);exact other i hi (.inr (aqN i hc))
 ·exact⟨ic,_,gQ,DL,m.2.2.2.2.2.1 _ DL⟩
 ·rcases m.2.2.2.2.2 with e|e<;>exact Oh (λq x=>by rw[x]at e;cases e) (λq x=>by rw[x]at e;cases e)
 ·rcases m.2.2.2.2 with e|e<;>exact Oh (λq x=>by rw[x]at e;cases e) (λq x=>by rw[x]at e;cases e)
 ·obtain⟨⟨_,n,_,_,_,bi⟩,_⟩:=m;obtain⟨n',ho⟩:=ho;rw[bi]at ho;simp at ho
def tx(V':View)(Im:cG)(K:Nat->GS):bO V' Im K=upd (bO V Im K) 0 V':=by
 funext j;by_cases hj:j=0
 ·subst hj;rw[bG];simp[bO]
 ·rw[br _ _ hj];simp[bO,hj]
def lj:bO V Im K 0=V:=by simp[bO]
def wR (r:nJ)(ph:TB):Prop:=match r with
 |.plain=>ph=none
 |.fork c Wg Ss=>ph=some ⟨c,Wg,Ss,false⟩
 |.recv c Wg Ss=>ph=some ⟨c,Wg,Ss,true⟩
 |.work .. =>False
def Inv.apX(h:Inv P n0 W0 V gs w t K Im ic ph st){V':View}(g:ey V V')(hr:wR V.role ph):Inv P n0 W0 V' gs w t K Im ic ph st:=by
 obtain⟨dx,hc,nu,io⟩:=h.out;refine Inv.mk' h.pos h.k0 (by rw[g.deaf];exact h.d0) dx ?_ nu ?_
 ·rw[tx (V:=V)];exact hc.ghost h.pos (by rw[lj];exact g)
 ·cases ph with
  |none=>exact io
  |some p=>
   obtain⟨a1,a2,a3,a4,a5,a6,a7,a8,a9,b_⟩:=io;refine⟨a1,a2,a3,a4,a5,a6,a7,a8,a9,?_⟩;split
   ·rename_i aN;rw[if_pos aN]at b_;have b:jN p V:=⟨b_.1.1,b_.1.2.1,b_.1.2.2.1,b_.1.2.2.2⟩;have b':=b.ghost g;exact⟨⟨b'.1,b'.2.1,b'.2.2.1,b'.2.2.2⟩,b_.2⟩
   ·rename_i aN;rw[if_neg aN]at b_;refine⟨g.chan _ _ ?_ b_.1,b_.2⟩;unfold wR at hr;split at hr
    ·cases hr
    ·cases hr;rename_i e;rw[e];rfl
    ·cases hr;exact absurd rfl aN
    ·exact hr.elim
def Inv.adt(h:Inv P n0 W0 V gs w t K Im ic ph st){g0 g':Tj}{es:SP}{V':View}(h0:gs[0]?=some g0)(s:du V w V' w' es)(hr:wR V.role ph):
  Inv P n0 W0 V' ((gs.map (woken P g0 g' w')).setIfInBounds 0 g') w' (t++Ui 0 g0.frame.fn g0.frame.place es) K Im ic ph st:=by
 obtain⟨dx,hc,nu,io⟩:=h.out;have aZ:((gs.map (woken P g0 g' w')).setIfInBounds 0 g').size=gs.size:=by simp
 have EP:∀op∈Ui 0 g0.frame.fn g0.frame.place es,op.g=0:=λop az=>by obtain⟨e,_,rfl⟩:=UU az;rfl
 have eW:∀{u:Vq}{idx:Nat}{op:Xj},(t++u)[idx]?=some op->op.g=0->Xq (t++u) 0 idx:=λ{u idx op} a b=>by have:=ae' a;rwa[b]at this
 have abF:∀p,ph=some p->w'.heap[p.c]?=w.heap[p.c]?:=by
  rintro p rfl
  obtain⟨a1,a2,a3,a4,a5,a6,a7,a8,a9,b_⟩:=io;by_cases aN:p.recv=true
  ·rw[if_pos aN]at b_;exact s.frame _ a4 b_.1.1
  ·rw[if_neg aN]at b_;have dn:Sat V w:=(by have:=hc.sat 0 h.pos;rwa[lj]at this);have fy:V.role.chan=some p.c:=by
    unfold wR at hr;split at hr
    ·cases hr
    ·cases hr;rename_i e;rw[e];rfl
    ·cases hr;exact absurd rfl aN
    ·exact hr.elim
   rw[s.sat.own _ _ (s.chan _ _ fy b_.1),dn.own _ _ b_.1]
 refine Inv.mk' (by rw[aZ];exact h.pos) h.k0 (by rw[Deaf_own,s.deaf,h.d0]) (λj x hj hx=> ?_) ?_ ?_ ?_
 ·rcases getElem?_next h.pos hx with⟨e,_⟩|⟨_,y,hy,rfl⟩
  ·omega
  ·rw[ayb t (g:=j) (g':=0) (by omega) _ EP];have EX:=dx j y hj hy;have Ni:j<gs.size:=(T5.1 hy).1;cases ph with
   |none=>
    obtain⟨q,hq,mP⟩:=EX;exact⟨q,hq,by rw[woken_quitsD mP];exact mP⟩
   |some p=>
    refine acQ ?_ EX;rcases h.opens rfl with⟨n,x⟩|x
    ·exact .inl ⟨n,by rw[abF p rfl];exact x⟩
    ·exact .inr (x.1 j hj Ni)
 ·rw[aZ,tx (V:=V)];refine hc.step h.pos (by rw[lj];exact s) (λe he x hx hs=> ?_) g0.frame.fn g0.frame.place;cases ph with
  |none=>exact hs.elim
  |some p=>
   obtain⟨a1,a2,a3,a4,a5,a6,a7,a8,a9,b_⟩:=io;have j_:=Lr (s.fG e he) hx;by_cases aN:p.recv=true
   ·exfalso;rw[if_pos aN]at b_;have b:jN p V:=⟨b_.1.1,b_.1.2.1,b_.1.2.2.1,b_.1.2.2.2⟩;rcases j_.1 with y|⟨y,_⟩|y
    ·exact b.B9 y.rd hs
    ·exact b.B9 y hs
    ·exact y (aeV a4 a5 hs)
   ·rw[if_neg aN]at b_;have jF:V.role.chan=some p.c/\V.role.group=some p.Wg:=by
     unfold wR at hr;split at hr
     ·cases hr
     ·cases hr;rename_i e;rw[e];exact⟨rfl,rfl⟩
     ·cases hr;exact absurd rfl aN
     ·exact hr.elim
    have kD:nN (some p) gs.size ic K 0:=by
     show jv p gs.size ic K 0;unfold jv;rw[if_neg aN];exact .inl rfl
    have EB:x.kind≠ .plain:=by
     intro hk;cases hl:x.loc with
     |cell a=>rw[hl]at hs;exact j_.2.2 _ a jF.2 hl hs hk
     |obj r=>rw[hl]at hs;exact j_.2.1 _ jF.1 (by rw[hl];exact congrArg _ hs)
     |_=>rw[hl]at hs;exact hs.elim
    cases hk:x.kind with
    |plain=>exact absurd hk EB
    |atomic=>exact .inl ⟨rfl,kD⟩
    |said=>exact .inr ⟨rfl,b_.2.1.symm,kD⟩
 ·have xI:∀idx a,t.size<=idx->(∃op∈Ui 0 g0.frame.fn g0.frame.place es,(t++Ui 0 g0.frame.fn g0.frame.place es)[idx]?=some op/\op.act.touch?=some a)->Xq (t++Ui 0 g0.frame.fn g0.frame.place es) 0 idx:=λidx a _ ⟨op,az,hi,_⟩=>eW hi (EP op az);cases st with
  |none=>
   intro idx a ha hm;rcases CA ha with gL|⟨hi,x⟩
   ·obtain⟨op,az,_⟩:=Wb gL;rcases nu idx a gL hm with x|⟨x,y⟩|⟨_,z,_⟩
    ·exact .inl (x.app _)
    ·exact .inr (.inl ⟨x,λz=>y ((Xu (UQ az)).1 z)⟩)
    ·cases z
   ·exact .inl (xI idx a hi x)
  |some s'=>
   exact nu.app (λidx a ha hx=> .inr (hx.app (by obtain⟨op,az,_⟩:=Wb ha;exact UQ az) λj _ _ hj=> .inl hj)) (λidx a hi x _=> .inl (xI idx a hi x))
 ·cases ph with
  |none=>exact io
  |some p=>
   obtain⟨a1,a2,a3,a4,a5,a6,a7,a8,a9,b_⟩:=io;refine⟨a1,a2,a3,Uk a4 s.size,Uk a5 s.size,a6,a7,λj j' m b1 b2 b3 b4=>a8 j j' m b1 (aZ▸b2) b3 (aZ▸b4),λj S b1 b2=>by rw[aZ];exact a9 j S b1 b2,?_⟩;split
   ·rename_i aN;rw[if_pos aN]at b_;obtain⟨c1,c2,c3,s',c4,c5⟩:=b_;have b:jN p V:=⟨c1.1,c1.2.1,c1.2.2.1,c1.2.2.2⟩;have b':=b.step s a4 a5;refine⟨⟨b'.1,b'.2.1,b'.2.2.1,b'.2.2.2⟩,c2,by rw[aZ];exact c3,s',c4,?_⟩;rw[aZ];refine c5.keep (λ_=>rfl) (abF p rfl) (s.frame _ a5 b.2.2.1) λsK g hg=> ?_;rcases getElem?_next h.pos hg with⟨e,_⟩|⟨_,y,hy,rfl⟩
    ·omega
    ·rw[Zl (sK y hy)];exact sK y hy
   ·rename_i aN;rw[if_neg aN]at b_;have fy:V.role.chan=some p.c:=by
     unfold wR at hr;split at hr
     ·cases hr
     ·cases hr;rename_i e;rw[e];rfl
     ·cases hr;exact absurd rfl aN
     ·exact hr.elim
    exact⟨s.chan _ _ fy b_.1,b_.2.1,b_.2.2.1,by rw[aZ];exact b_.2.2.2.1,b_.2.2.2.2.1,by rw[aZ];exact b_.2.2.2.2.2⟩
end
def afJ{x y:Xj}{k:Nat}(hx:x.act=.go k)(hy:y.act=.start):∀op∈(#[x,y]:Vq),op.act.touch?=none/\still op.act/\(∀B,op.act.low B)/\∀a,op.act≠ .mark (.release a):=by
 intro op az;simp only[UR,Tm,T7,or_false]at az;rcases az with rfl|rfl
 ·rw[hx];exact⟨rfl,⟨by simp,by simp⟩,λ_=>trivial,by simp⟩
 ·rw[hy];exact⟨rfl,⟨by simp,by simp⟩,λ_=>trivial,by simp⟩
def Si{t:Vq}{N:Nat}(h:∀op∈t,op.g<N):VZ t N=0:=by
 have key:∀k,k<=t.size->t.deaf N k=0:=by
  intro k;induction k with
  |zero=>intro _;rfl
  |succ k ih=>
   intro hk;have hy:t[k]?=some t[k]:=Tn (by omega);have aF:¬t[k].g=N:=(by have:=h t[k] (YV _);omega);rw[axo hy,ih (by omega)];unfold deafStep;split<;>simp[aF]
 exact key _ (Ts _)
section
variable {VV:Nat->View}{N:Nat}{w:Uu}{t:Vq}{Sh:Loc->Prop}{act act':S7}{ic kY n0:Nat}{W0:Uu}
def Core.spawn(h:Core VV N w t Sh act ic n0 W0)(h0:0<N)(bf:VZ t 0=0){x y:Xj}(hx:x.g=0/\x.act=.go N)(hy:y.g=N/\y.act=.start){U:View}(hi:U.ai=(VV 0).ai)(ho:U.own=λ_=>none)
  (kD:∀i,act' i->act i\/(i=N/\act 0)) (gB:kY=ic\/(kY=N/\ic=0)):Core (upd VV N U) (N+1) w (t++#[x,y]) Sh act' kY n0 W0:=by
 have jW:=afJ hx.2 hy.2;have hdN:VZ t N=0:=Si h.ti.gs;have hk:∀{idx},Xq t 0 idx->Xq (t++#[x,y]) N idx:=λ{idx} jY=>fork_knows hx hy bf hdN jY;have hsU:Sat U w:=⟨λb o v e=>(h.sat 0 h0).ai b o v (by rw[<- hi];exact e),λb x e=>by rw[ho]at e;cases e⟩;refine⟨λi cI=> ?_,λa b ha hb eQ=> ?_,?_,h.tape,h.os,h.out,h.old,λi cI b hb=> ?_,h.n0⟩
 ·by_cases fQ:i=N
  ·subst fQ;rw[bG];exact hsU
  ·rw[br _ _ fQ];exact h.sat i (by omega)
 ·by_cases haN:a=N
  ·subst haN;rw[bG];intro q hq;rw[ho]at hq;exact absurd rfl hq
  ·rw[br _ _ haN];by_cases HI:b=N
   ·subst HI;rw[bG];intro q hq;refine⟨by rw[ho],λo hu=> ?_⟩;rw[hi]at hu;by_cases Bi:a=0
    ·subst Bi;exact hu
    ·exact(h.d_ a 0 (by omega) h0 Bi q hq).2 o hu
   ·rw[br _ _ HI];exact h.d_ a b (by omega) (by omega) eQ
 ·refine h.ti.mute (λop az=>(jW op az).1) (λop az=>(jW op az).2.2.1 _) (λop az=> ?_) (by omega) (λop az=>(jW op az).2.2.2) (λi cI l hl idx a ha ij rq=> ?_) (λi cI l hl idx a ha ij=> ?_) (λidx a ha dP=>⟨λhp i cI=> ?_,λhp=> ?_⟩)
  ·simp only[UR,Tm,T7,or_false]at az;rcases az with rfl|rfl
   ·omega
   ·omega
  ·obtain⟨_,cR,lI⟩:=hl;by_cases fQ:i=N
   ·subst fQ;rw[bG]at cR;have:iz (VV 0) l:=by
     cases l with
     |cell a'=>rcases cR with z|z;exact absurd (by rw[ho]) z;exact .inr (by rw[<- hi];exact z)
     |obj r=>exact absurd (by rw[ho]) cR
     |_=>exact cR.elim
    exact hk (h.ti.kr 0 h0 l ⟨h0,this,lI⟩ idx a ha ij rq)
   ·rw[br _ _ fQ]at cR;exact(h.ti.kr i (by omega) l ⟨by omega,cR,lI⟩ idx a ha ij rq).app _
  ·obtain⟨_,cR,lI⟩:=hl;by_cases fQ:i=N
   ·subst fQ;rw[bG]at cR;exfalso;cases l with
    |cell a'=>exact cR.1 (by rw[ho])
    |obj r=>exact cR (by rw[ho])
    |_=>exact cR.elim
   ·rw[br _ _ fQ]at cR;exact(h.ti.kw i (by omega) l ⟨by omega,cR,lI⟩ idx a ha ij).app _
  ·have:=h.ti.sp idx a ha dP;rcases kD i cI with z|⟨rfl,z⟩
   ·exact(this.1 hp i z).app _
   ·exact hk (this.1 hp 0 z)
  ·have:=h.ti.sp idx a ha dP;rcases gB with rfl|⟨rfl,rfl⟩
   ·exact(this.2 hp).app _
   ·exact hk (this.2 hp)
 ·by_cases fQ:i=N
  ·subst fQ;rw[bG,ho]
  ·rw[br _ _ fQ];exact h.jJ i (by omega) b hb
end
section
variable {P:Tl}{n0:Nat}{W0:Uu}{V:View}{gs gs':SQ}{w w':Uu}{sl:S6}{t:Vq}{K:Nat->GS}{Im:cG}{ic:Nat}{ph:TB}{p:Phase}{st st':TG}
def GS.afW{k:GS}(h:k.nS=false)(Im ln:cG):k.view ln=k.view Im:=by cases k<;>first|rfl|cases h
def GS.aox{k:GS}{c Wg d:Nat}{Im ln:cG}{Ss Q5:TA}{g:Tj}(h:k.nS=false)(hS:∀(j:Nat) S,Ss[j]?=some S->Q5[j]?=some S)(hk:k.is P c Wg Im Ss d g):k.is P c Wg ln Q5 d g:=by
 cases k with
 |work j hh V=>obtain⟨a,b,S,e,f⟩:=hk;exact⟨a,b,S,hS _ _ e,f⟩
 |oG j hh V V' g0 v z=>obtain⟨a,b,c,d,sp,S,B,e,f⟩:=hk;exact⟨a,b,c,d,sp,S,B,hS _ _ e,f⟩
 |gone q=>exact hk
 |add n=>exact hk
 |load n=>exact hk
 |store n=>exact hk
 |mX n=>exact hk
 |head k n=>cases h
 |mD k n=>cases h
 |said n=>cases h
 |iL n=>cases h
 |last n=>cases h
 |acq n=>cases h
 |look n=>cases h
 |close n=>cases h
def Inv.spawn(h:Inv P n0 W0 V gs w t K Im ic (some p) st)(aN:p.recv=false)(ii:V.deaf=0){g' child:Tj}{x y:Xj}(hx:x.g=0/\x.act=.go gs.size)(hy:y.g=gs.size/\y.act=.start){V':View}{p':Phase}{ln:cG}{kY:Nat}{k':GS}(hc:p'.c=p.c)(Bh:p'.Wg=p.Wg)
  (qY:m_ V' V) (vK:V'.deaf=V.deaf) (rn:(k'.view ln).ai=V.ai) (hvo:(k'.view ln).own=λ_=>none) (hSs:∀(j:Nat) S,p.Ss[j]?=some S->p'.Ss[j]?=some S) (Ee:k'.is P p.c p.Wg ln p'.Ss 0 child)
  (kD:∀i,i<gs.size->jv p' (gs.size+1) kY (upd K gs.size k') i->jv p gs.size ic K i) (gB:kY=ic\/kY=gs.size)
  (ED:AE P n0 V' ((gs.setIfInBounds 0 g').push child) w (t++#[x,y]) (upd K gs.size k') ln kY (some p') (some .early)):
  Inv P n0 W0 V' ((gs.setIfInBounds 0 g').push child) w (t++#[x,y]) (upd K gs.size k') ln kY (some p') (some .early):=by
 obtain⟨dx,iC,nu,io⟩:=h.out;obtain⟨a1,a2,a3,a4,a5,a6,a7,a8,a9,b_⟩:=io;rw[if_neg (by rw[aN];simp)]at b_;obtain⟨c1,c2,c3,c4,c5,c6⟩:=b_;have aZ:((gs.setIfInBounds 0 g').push child).size=gs.size+1:=by simp
 have jW:=afJ hx.2 hy.2;have bI:∀i,VZ (t++#[x,y]) i=VZ t i:=λi=>Deaf_still λop az=>(jW op az).2.1;have BJ:=h.pos;have bf:VZ t 0=0:=by rw[h.d0,ii]
 have bi:∀i,0<i->(K i).nS=false:=λi hi=>by
  cases e:(K i).nS with
  |false=>rfl
  |true=>have:=h.tn hi e;omega
 have ame:nN (some p) gs.size ic K 0:=by
  show jv p gs.size ic K 0;unfold jv;rw[if_neg (by rw[aN];simp)];exact .inl rfl
 have zi:=iC.spawn (act':=nN (some p') (gs.size+1) kY (upd K gs.size k')) (kY:=kY) BJ bf hx hy (U:=k'.view ln) (by rw[lj];exact rn) hvo (λi hi=>by
   by_cases fQ:i<gs.size
   ·exact .inl (kD i fQ hi)
   ·refine .inr ⟨?_,ame⟩;have cI:jv p' (gs.size+1) kY (upd K gs.size k') i:=hi;unfold jv at cI;split at cI<;>omega) (gB.imp id λe=>⟨e,c2⟩)
 have amE:=(zi.less (i:=0) (V':=V') (by omega) (by rw[br _ _ (by omega),lj];exact qY)).congr (Gv:=bO V' ln (upd K gs.size k')) λi hi=>by
  by_cases eU:i=0
  ·subst eU;rw[bG];simp[bO]
  ·rw[br _ _ eU];by_cases fQ:i=gs.size
   ·subst fQ;rw[bG];simp[bO,eU,bG]
   ·rw[br _ _ fQ];simp only[bO,eU,if_false,br _ _ fQ];exact GS.afW (bi i (by omega)) _ _
 refine Inv.mk' (by omega) (by rw[br _ _ (by omega)];exact h.k0) (by rw[bI,vK];exact h.d0) (λi z hi hz=> ?_) ?_ ?_ ED
 ·rw[bI];show (upd K gs.size k' i).is P p'.c p'.Wg ln p'.Ss _ z;rw[hc,Bh];by_cases fQ:i=gs.size
  ·subst fQ;rw[bG,Si iC.ti.gs];have:z=child:=by
    rw[show gs.size=(gs.setIfInBounds 0 g').size by simp]at hz;rw[Array.getElem?_push_size]at hz;exact(WV hz).symm
   rw[this];exact Ee
  ·have awu:i<gs.size:=(by have:=(T5.1 hz).1;omega);rw[br _ _ fQ];rw[Yl,if_neg (by simp;omega),T6 (by omega)]at hz;exact GS.aox (bi i hi) hSs (dx i z hi hz)
 ·rw[aZ];have e:te (some p')=te (some p):=by show rR p'.c p'.Wg=rR p.c p.Wg;rw[hc,Bh]
  rw[e];exact amE
 ·have hr:Rest p.Wg t K ic st:=nu;rw[c3]at hr;show Rest p'.Wg _ _ _ _;rw[Bh];intro idx a ha hm;have gL:=CB (λop az=>(jW op az).1) ha;obtain⟨op,az,_⟩:=Wb gL;have hlt:=UQ az;rcases hr idx a gL hm with z|⟨z1,z2⟩|⟨s,hs,jY⟩
  ·exact .inl (z.app _)
  ·exact .inr (.inl ⟨z1,λz=>z2 ((Xu hlt).1 z)⟩)
  ·cases hs;obtain⟨i,hg,hi,hz⟩:=jY;have fQ:i<gs.size:=by
    obtain⟨op',bt,p_⟩:=Uv.1 hg;rw[<- p_];exact iC.ti.gs op' (YU bt)
   refine .inr (.inr ⟨.early,rfl,i,by rw[g?_old hlt];exact hg,hi,?_⟩);rcases hz with hz|hz|⟨r,hz,hle⟩
   ·exact .inl (by rw[br _ _ (by omega)];exact hz)
   ·omega
   ·exact .inr (.inr ⟨r,hz.app,hle⟩)
def Sat.Ol{c:Nat}{a:Nat}{x:Bool}{y z:Nat}{u:Bool}{GV:SG}(h:Sat V w)(hc:w.heap[c]?=some (.chan a GV x y z u))(o:Nat):V.ai c o=none:=by
 cases e:V.ai c o with
 |none=>rfl
 |some v=>have:=h.ai c o v e;simp[VC,hc]at this
def Inv.adG(h:Inv P n0 W0 V gs w t K Im ic (some p) st)(aN:p.recv=false){i:Nat}(hi:0<i):(K i).nS=false:=by
 have hx:=h.phase.2.2.2.2.2.2.2.2.2;rw[if_neg (by rw[aN];simp)]at hx;cases e:(K i).nS with
 |false=>rfl
 |true=>have:=h.tn hi e;have:=hx.2.1;omega
def Inv.Hm(h:Inv P n0 W0 V gs w t K Im ic (some p) st)(aN:p.recv=false)(ii:V.deaf=0){g' child:Tj}{x y:Xj}(hx:x.g=0/\x.act=.go gs.size)(hy:y.g=gs.size/\y.act=.start){hh:Ht}{sp:Spec}{S:TJ}(hlen:p.Ss.length<4)(oT:∀o,V.ai p.Wg o=none)
  (Ee:lX P hh {ai:=V.ai,own:=λ_=>none,deaf:=0,role:=.work p.c p.Wg (sp::S)} child):
  Inv P n0 W0 {V with role:=.fork p.c p.Wg (p.Ss++[sp::S])} ((gs.setIfInBounds 0 g').push child) w (t++#[x,y]) (upd K gs.size (.work p.Ss.length hh {ai:=V.ai,own:=λ_=>none,deaf:=0,role:=.work p.c p.Wg (sp::S)})) Im ic
   (some {p with Ss:=p.Ss++[sp::S]}) (some .early):=by
 obtain⟨dx,iC,nu,io⟩:=h.out;obtain⟨a1,a2,a3,a4,a5,a6,a7,a8,a9,b_⟩:=io;rw[if_neg (by rw[aN];simp)]at b_;obtain⟨c1,c2,c3,c4,c5,c6⟩:=b_;have aZ:((gs.setIfInBounds 0 g').push child).size=gs.size+1:=by simp
 have dn:Sat V w:=by have:=iC.sat 0 h.pos;rwa[lj]at this
 have Bq:=dn.Ol (dn.own _ _ c1);have de:∀i j,0<i->i<gs.size->(K i).idx=some j->j<p.Ss.length:=λi j hi hlt e=>by
  have hik:=dx i _ hi (Tn hlt);have Nb:(K i).is P p.c p.Wg Im p.Ss (VZ t i) gs[i]:=hik;cases lB:K i<;>rw[lB]at e Nb<;>simp[GS.idx]at e
  ·subst e;obtain⟨_,_,S,e,_⟩:=Nb;exact(Tq.1 e).1
  ·subst e;obtain⟨_,_,_,_,_,_,_,e,_⟩:=Nb;exact(Tq.1 e).1
 refine h.spawn aN ii hx hy rfl rfl ⟨λ_=> .inr rfl,λ_ _=> .inr rfl,λ_ _ _=>rfl⟩ rfl rfl rfl (λj S' e=> ?_) ⟨rfl,Ee,sp::S,by simp,rfl⟩ (λi hi kD=> ?_) (.inl rfl) ?_
 ·show (p.Ss++[sp::S])[j]?=some S';rw[T4 (Tq.1 e).1];exact e
 ·unfold jv at kD⊢;rw[if_neg (by show ¬p.recv=true;rw[aN];simp)]at kD;rw[if_neg (by rw[aN];simp)];rw[br _ _ (by omega)]at kD;exact kD.imp id λz=>⟨hi,z.2⟩
 ·refine⟨a1,a2,a3,a4,a5,by simp only[Tt,Ve,VL];omega,λi hi=> ?_,λi i' j b1 b2 b3 b4 b5 b6=> ?_,λj S' b1 b2=> ?_,?_⟩
  ·by_cases fQ:i=gs.size
   ·subst fQ;rw[bG];exact⟨rfl,Bq,rfl,oT,λe=>by cases e⟩
   ·rw[br _ _ fQ];exact a7 i hi
  ·rw[aZ]at b2 b4;by_cases e1:i=gs.size
   ·by_cases e2:i'=gs.size
    ·omega
    ·rw[br _ _ e2]at b6;have:=de i' j b3 (by omega) b6;subst e1;rw[bG]at b5;simp only[GS.idx,Us]at b5;omega
   ·rw[br _ _ e1]at b5;by_cases e2:i'=gs.size
    ·have:=de i j b1 (by omega) b5;subst e2;rw[bG]at b6;simp only[GS.idx,Us]at b6;omega
    ·rw[br _ _ e2]at b6;exact a8 i i' j b1 (by omega) b3 (by omega) b5 b6
  ·rw[aZ];by_cases hj:j<p.Ss.length
   ·have:p.Ss[j]?=some S':=by
     have KJ:(p.Ss++[sp::S])[j]?=some S':=b1;rwa[T4 hj]at KJ
    obtain⟨i,e1,e2,e3⟩:=a9 j S' this b2;exact⟨i,e1,by omega,by rw[br _ _ (by omega)];exact e3⟩
   ·have iT:j=p.Ss.length:=by
     have:=(Tq.1 (show (p.Ss++[sp::S])[j]?=some S' from b1)).1;simp at this;omega
    exact⟨gs.size,h.pos,by omega,by rw[bG,iT];rfl⟩
  ·show if p.recv=true then _ else _;rw[if_neg (by rw[aN];simp)];refine⟨c1,c2,rfl,λi b1 b2=> ?_,λS' hS'=> ?_,?_⟩
   ·rw[aZ]at b2;by_cases fQ:i=gs.size
    ·subst fQ;rw[bG];exact .inl rfl
    ·rw[br _ _ fQ];exact c4 i b1 (by omega)
   ·rcases Tv.1 hS' with z|z
    ·exact c5 S' z
    ·simp at z;subst z;simp
   ·rw[aZ,sumTo,bG,Tt,<- c6];rw[Wz (g:=λi=>(K i).cnt) λi hi=>by rw[br _ _ (by omega)]];rfl
def Inv.Hl(h:Inv P n0 W0 V gs w t K Im ic (some p) st)(aN:p.recv=false)(ii:V.deaf=0){g' child:Tj}{x y:Xj}(hx:x.g=0/\x.act=.go gs.size)(hy:y.g=gs.size/\y.act=.start){n:Nat}
  (Bh:V.own p.Wg=some (wgBlock P (((p.Ss.length:Nat):Int)* KK) 0)) (oT:∀o,V.ai p.Wg o=none) (Ee:cY P (eZ P V.ai p.c p.Wg 5) n 0 child):
  Inv P n0 W0 {V with own:=λb=>if b=p.c\/b=p.Wg then none else V.own b,role:=.recv p.c p.Wg p.Ss} ((gs.setIfInBounds 0 g').push child) w (t++#[x,y]) (upd K gs.size (.head 5 n)) V.ai gs.size (some {p with recv:=true}) (some .early):=by
 obtain⟨dx,iC,nu,io⟩:=h.out;obtain⟨a1,a2,a3,a4,a5,a6,a7,a8,a9,b_⟩:=io;rw[if_neg (by rw[aN];simp)]at b_;obtain⟨c1,c2,c3,c4,c5,c6⟩:=b_;have aZ:((gs.setIfInBounds 0 g').push child).size=gs.size+1:=by simp
 have dn:Sat V w:=by have:=iC.sat 0 h.pos;rwa[lj]at this
 have Bq:=dn.Ol (dn.own _ _ c1);have BJ:=h.pos;refine h.spawn aN ii hx hy rfl rfl ⟨λb=> ?_,λ_ _=> .inr rfl,λ_ _ _=>rfl⟩ rfl rfl rfl (λj S' e=>e) Ee (λi hi kD=> ?_) (.inr rfl) ?_
 ·by_cases e:b=p.c\/b=p.Wg
  ·exact .inl (by simp only[e,if_true])
  ·exact .inr (by simp only[e,if_false])
 ·unfold jv at kD⊢;rw[if_pos rfl]at kD;rw[if_neg (by rw[aN];simp)];rw[br _ _ (by omega)]at kD;obtain⟨z1,_,z2⟩:=kD;rcases c4 i z1 hi with z|⟨q,z⟩
  ·exact .inr ⟨hi,z⟩
  ·exfalso;rw[z]at z2;rcases z2 with z2|z2|z2|z2
   ·cases z2
   ·omega
   ·cases z2
   ·cases z2
 ·refine⟨a1,a2,a3,a4,a5,a6,λi hi=> ?_,λi i' j b1 b2 b3 b4 b5 b6=> ?_,λj S' b1 b2=> ?_,?_⟩
  ·by_cases fQ:i=gs.size
   ·subst fQ;rw[bG];exact⟨rfl,Bq,rfl,oT,λ_=>rfl⟩
   ·rw[br _ _ fQ,GS.afW (h.adG aN hi) Im];have:=a7 i hi;exact⟨this.1,this.2.1,this.2.2.1,this.2.2.2.1,λe=>by rw[h.adG aN hi]at e;cases e⟩
  ·rw[aZ]at b2 b4;by_cases e1:i=gs.size
   ·subst e1;rw[bG]at b5;cases b5
   ·by_cases e2:i'=gs.size
    ·subst e2;rw[bG]at b6;cases b6
    ·rw[br _ _ e1]at b5;rw[br _ _ e2]at b6;exact a8 i i' j b1 (by omega) b3 (by omega) b5 b6
  ·obtain⟨i,e1,e2,e3⟩:=a9 j S' b1 b2;exact⟨i,e1,by omega,by rw[br _ _ (by omega)];exact e3⟩
  ·show if true=true then _ else _;rw[if_pos rfl];refine⟨⟨by simp,Bq,by simp,oT⟩,by omega,by rw[aZ];omega,.early,rfl,?_⟩;rw[aZ];have e1:sumTo (gs.size+1) (λi=>(upd K gs.size (.head 5 n) i).cnt)=p.Ss.length:=by
    rw[sumTo,bG,<- c6];rw[Wz (g:=λi=>(K i).cnt) λi hi=>by rw[br _ _ (by omega)]];rfl
   have e2:sumTo (gs.size+1) (λi=>(upd K gs.size (.head 5 n) i).late)=0:=by
    have hz:∀N,sumTo N (λ_=>0)=0:=λN=>(by induction N with|zero=>rfl|succ N ih=>simp[sumTo,ih]);rw[sumTo,bG];rw[Wz (g:=λ_=>0) λi hi=> ?_,hz]
    ·rfl
    ·rw[br _ _ (by omega)];rcases Vu i with rfl|eU
     ·rw[h.k0];rfl
     ·rcases c4 i eU hi with z|⟨q,z⟩
      ·cases lB:K i<;>rw[lB]at z<;>first|rfl|cases z
      ·rw[z];rfl
   unfold Mode;simp only[e1,e2,bG];exact .inl ⟨⟨0,dn.own _ _ c1⟩,trivial,trivial,a6,dn.own _ _ Bh,.inl ⟨5,rfl,by omega⟩⟩
def Inv.begin(h:Inv P n0 W0 V gs w t K Im ic none st){c Wg:Nat}(aF:c≠Wg)(hc:V.own c=some (.chan 0 #[] false 0 0 false)) (hW:V.own Wg≠none) (oT:∀o,V.ai Wg o=none):
  Inv P n0 W0 {V with role:=.fork c Wg []} gs w t (λi=>if i<gs.size then K i else .gone 0) Im 0 (some ⟨c,Wg,[],false⟩) (some .early):=by
 obtain⟨dx,iC,nu,io⟩:=h.out;have dn:Sat V w:=by have:=iC.sat 0 h.pos;rwa[lj]at this
 have Bq:=dn.Ol (dn.own _ _ hc);have ul:∀i,(∃q,(if i<gs.size then K i else .gone 0)=GS.gone q):=λi=>by
  by_cases hi:i<gs.size
  ·rw[if_pos hi];rcases Vu i with rfl|eU
   ·exact⟨0,h.k0⟩
   ·obtain⟨q,hq,_⟩:=dx i _ eU (Tn hi);exact⟨q,hq⟩
  ·rw[if_neg hi];exact⟨0,rfl⟩
 have iO:∀{b x},V.own b=some x->n0<=b/\b<w.heap.size:=λ{b x} e=>by
  refine⟨?_,dn.lt e⟩;apply Nat.le_of_not_lt;intro hb;have:=iC.jJ 0 h.pos b hb;rw[lj,e]at this;cases this
 obtain⟨xW,hxW⟩:∃x,V.own Wg=some x:=by cases e:V.own Wg with|none=>exact absurd e hW|some x=>exact⟨x,rfl⟩
 have mO:∀i,0<i->((if i<gs.size then K i else .gone 0).view Im)=noView:=λi _=>by obtain⟨q,e⟩:=ul i;rw[e];rfl
 refine Inv.mk' h.pos (by rw[if_pos h.pos];exact h.k0) h.d0 (λi x hi hx=> ?_) ?_ ?_ ?_
 ·have hlt:i<gs.size:=(T5.1 hx).1;obtain⟨q,hq,hy⟩:=dx i x hi hx;show (if i<gs.size then K i else .gone 0).is P c Wg Im [] _ x;rw[if_pos hlt,hq];exact hy
 ·have bw:Core (bO {V with role:=.fork c Wg []} Im (λi=>if i<gs.size then K i else .gone 0)) gs.size w t (te none) (nN none gs.size ic K) ic n0 W0:=by
   refine(iC.role (i:=0) (V':={V with role:=.fork c Wg []}) h.pos (by rw[lj]) (by rw[lj])).congr λi hi=> ?_;by_cases eU:i=0
   ·subst eU;rw[bG];simp[bO]
   ·rw[br _ _ eU];simp[bO,eU,hi]
  refine⟨bw.sat,bw.d_,?_,bw.tape,bw.os,bw.out,bw.old,bw.jJ,bw.n0⟩;refine bw.ti.weaken (Ts _) (λi l _ x=> .inl ⟨x.1,x.2.1,λz=>z.elim⟩) (λi l _ x=>⟨x.1,x.2.1,λz=>z.elim⟩) (λidx a ha dP=> ?_);have hk:Xq t 0 idx:=by
   have zG:j5 V a.loc:=by
    have BP:rR c Wg a.loc:=dP;cases hl:a.loc with
    |cell ad=>rw[hl]at BP;have e:ad.block=Wg:=BP;exact⟨by rw[e];exact hW,by rw[e];exact oT _⟩
    |obj r=>rw[hl]at BP;have e:r=c:=BP;show V.own r≠none;rw[e,hc];simp
    |_=>rw[hl]at BP;exact BP.elim
   exact iC.ti.kw 0 h.pos a.loc ⟨h.pos,by rw[lj];exact zG,λz=>z.elim⟩ idx a ha rfl
  refine⟨λ_ i hi=> ?_,λ_=>hk⟩;have cI:jv ⟨c,Wg,[],false⟩ gs.size 0 (λi=>if i<gs.size then K i else .gone 0) i:=hi;unfold jv at cI;rw[if_neg (by simp)]at cI;rcases cI with rfl|⟨_,e⟩
  ·exact hk
  ·obtain⟨q,eq⟩:=ul i;simp only[eq]at e;cases e
 ·have aP:st=none:=io;intro idx a ha hm;rcases nu idx a ha hm with z|z|⟨s,e,_⟩
  ·exact .inl z
  ·exact .inr (.inl z)
  ·rw[aP]at e;cases e
 ·refine⟨(iO hc).1,(iO hxW).1,aF,(iO hc).2,(iO hxW).2,by simp,λi hi=> ?_,λi i' j _ _ _ _ b5=> ?_,λj S b1=>by simp at b1,?_⟩
  ·rw[mO i hi];exact⟨rfl,λ_=>rfl,rfl,λ_=>rfl,λe=>by obtain⟨q,eq⟩:=ul i;simp only[eq]at e;cases e⟩
  ·obtain⟨q,eq⟩:=ul i;simp only[eq]at b5;cases b5
  ·show if false=true then _ else _;rw[if_neg (by simp)];refine⟨hc,rfl,rfl,λi _ _=> .inr (ul i),by simp,?_⟩;have hz:∀N,sumTo N (λ_=>0)=0:=λN=>(by induction N with|zero=>rfl|succ N ih=>simp[sumTo,ih]);rw[Wz (g:=λ_=>0) λi _=>by obtain⟨q,eq⟩:=ul i;show (if i<gs.size then K i else GS.gone 0).cnt=0;rw[eq];rfl];exact hz _
def Inv.ato(h:Inv P n0 W0 V gs w t K Im ic (some p) st)(aN:p.recv=true)(ii:V.deaf=0){g0 g':Tj}{n:Nat}(bi:w.heap[p.c]?=some (.chan 0 #[] true n n false)) {y:Xj} (hy:y.g=0/\y.act=.recvClosed p.c):
  (∀S∈p.Ss,S=[])/\Inv P n0 W0 {V with role:=.plain} (gs.setIfInBounds 0 g') w (t++#[y]) K Im ic none none:=by
 obtain⟨dx,iC,nu,io⟩:=h.out;obtain⟨a1,a2,a3,a4,a5,a6,a7,a8,a9,b_⟩:=io;rw[if_pos aN]at b_;obtain⟨c1,c2,c3,s,c4,c5⟩:=b_;have zu:(∃pp n,s=.shut pp/\t.act? pp=some (.close p.c)/\t.heard pp/\w.heap[p.c]?=some (.chan 0 #[] true n n false))/\(sumTo gs.size λi=>(K i).late)=0/\(sumTo gs.size λi=>(K i).cnt)=0/\(K ic).shape=.gone 0:=by
  have no:¬∃n,w.heap[p.c]?=some (.chan 0 #[] false n n false):=λ⟨m,e⟩=>by rw[bi]at e;simp at e
  unfold Mode at c5;rcases c5 with m|m|m|m|m|m|m
  ·exact absurd m.1 no
  ·exact absurd m.1 no
  ·exact absurd m.1 no
  ·exact absurd m.1 no
  ·exact absurd m.1 no
  ·exact absurd m.1 no
  ·exact m
 obtain⟨⟨pp,n',rfl,m1,m2,_⟩,m3,m4,m5⟩:=zu;have ul:∀i,i<gs.size->∃q,K i=.gone q:=λi hi=>by
  have e1:(K i).cnt<=sumTo gs.size λi=>(K i).cnt:=XD (f:=λi=>(K i).cnt) hi;have e2:(K i).late<=sumTo gs.size λi=>(K i).late:=XD (f:=λi=>(K i).late) hi;rcases Vu i with rfl|eU
  ·exact⟨0,h.k0⟩
  ·have hc:=h.tn (i:=i) eU;have z1:(K i).cnt=0:=(by omega);have z2:(K i).late=0:=(by omega);clear e1 e2;cases lB:K i<;>rw[lB]at z1 z2 hc<;>first
    |exact⟨_,rfl⟩
    |(exfalso;simp[GS.cnt]at z1;done)
    |(exfalso;simp[GS.late]at z2;done)
    |(exfalso;have:=hc rfl;subst this;rw[lB]at m5;cases m5)
 have bV:jN p V:=⟨c1.1,c1.2.1,c1.2.2.1,c1.2.2.2⟩;have bf:VZ t 0=0:=by rw[h.d0,ii]
 have ov:∀op∈(#[y]:Vq),op.act.touch?=none/\still op.act/\op.act.low w.heap.size/\(∀a,op.act≠ .mark (.release a))/\op.g=0:=by
  intro op az;simp only[UR,Tm,T7,or_false]at az;subst az;rw[hy.2];exact⟨rfl,⟨by simp,by simp⟩,a4,by simp,hy.1⟩
 have bI:∀i,VZ (t++#[y]) i=VZ t i:=λi=>Deaf_still λop az=>(ov op az).2.1;have aZ:(gs.setIfInBounds 0 g').size=gs.size:=by simp
 refine⟨λS hS=> ?_,?_⟩
 ·obtain⟨j,hj⟩:=VU.1 hS;apply Uz;intro aF;obtain⟨i,e1,e2,e3⟩:=a9 j S hj aF;obtain⟨q,e⟩:=ul i e2;rw[e]at e3;cases e3
 ·refine Inv.mk' (by rw[aZ];exact h.pos) h.k0 (by rw[bI];exact h.d0) (λi x hi hx=> ?_) ?_ ?_ rfl
  ·rw[T6 (by omega)]at hx;have hlt:i<gs.size:=(T5.1 hx).1;obtain⟨q,e⟩:=ul i hlt;have hk:(K i).is P p.c p.Wg Im p.Ss (VZ t i) x:=dx i x hi hx;rw[e]at hk;rw[bI];exact⟨q,e,hk⟩
  ·rw[aZ];have h1:=(iC.role (i:=0) (V':={V with role:=.plain}) h.pos (by rw[lj]) (by rw[lj])).congr (Gv:=bO {V with role:=.plain} Im K) λi hi=>by
    by_cases eU:i=0
    ·subst eU;rw[bG];simp[bO]
    ·rw[br _ _ eU];simp[bO,eU]
   have adJ:∀i l,i<gs.size->iz (bO {V with role:=.plain} Im K i) l->¬rR p.c p.Wg l:=λi l hi hl=>by
    by_cases eU:i=0
    ·subst eU;have b':jN p (bO {V with role:=.plain} Im K 0):=(by simp only[bO,if_true];exact bV);exact b'.B9 hl
    ·obtain⟨q,e⟩:=ul i hi;have:bO {V with role:=.plain} Im K i=noView:=(by simp only[bO,eU,if_false,e];rfl);rw[this]at hl;exact aip.B9 hl
   refine⟨h1.sat,h1.d_,?_,h1.tape,h1.os,h1.out,h1.old,h1.jJ,h1.n0⟩;have xN:=h1.ti.mute (u:=#[y]) (N':=gs.size) (rd':=λi l=>i<gs.size/\iz (bO {V with role:=.plain} Im K i) l/\¬te none l) (wr':=λi l=>i<gs.size/\j5 (bO {V with role:=.plain} Im K i) l/\¬te none l) (act':=nN (some p) gs.size ic K) (kY:=ic)
    (λop az=>(ov op az).1) (λop az=>(ov op az).2.2.1) (λop az=>by rw[(ov op az).2.2.2.2];exact h.pos) (Ts _) (λop az=>(ov op az).2.2.2.1)
    (λi hi l hl idx a ha ij hw=>(h1.ti.kr i hi l ⟨hl.1,hl.2.1,adJ i l hi hl.2.1⟩ idx a ha ij hw).app _) (λi hi l hl idx a ha ij=>(h1.ti.kw i hi l ⟨hl.1,hl.2.1,adJ i l hi hl.2.1.rd⟩ idx a ha ij).app _)
    (λidx a ha dP=>⟨λhp i hi=>((h1.ti.sp idx a ha dP).1 hp i hi).app _,λhp=>((h1.ti.sp idx a ha dP).2 hp).app _⟩)
   exact xN.weaken (Ts _) (λ_ _ _ x=> .inl x) (λ_ _ _ x=>x) (λidx a _ hx=>hx.elim)
  ·have hr:Rest p.Wg t K ic st:=nu;rw[c4]at hr;intro idx a ha hm;have gL:=CB (λop az=>(ov op az).1) ha;obtain⟨op,az,_⟩:=Wb gL;rcases hr idx a gL hm with z|⟨z1,z2⟩|⟨s,hs,hx⟩
   ·exact .inl (z.app _)
   ·exact .inr (.inl ⟨z1,λz=>z2 ((Xu (UQ az)).1 z)⟩)
   ·cases hs;exact .inl (aiT m1 m2 hy bf hx)
def Inv.apY(h:Inv P n0 W0 V gs w t K Im ic (some p) st)(aN:p.recv=true)(x:Tj):Inv P n0 W0 V (gs.setIfInBounds 0 x) w t K Im ic (some p) st:=by
 obtain⟨dx,iC,nu,io⟩:=h.out;obtain⟨a1,a2,a3,a4,a5,a6,a7,a8,a9,b_⟩:=io;have aZ:(gs.setIfInBounds 0 x).size=gs.size:=by simp
 rw[if_pos aN]at b_;obtain⟨c1,c2,c3,s,c4,c5⟩:=b_;refine Inv.mk' (by rw[aZ];exact h.pos) h.k0 h.d0 (λi z hi hz=> ?_) (by rw[aZ];exact iC) nu ⟨a1,a2,a3,a4,a5,a6,a7,by rw[aZ];exact a8,by rw[aZ];exact a9,?_⟩
 ·rw[T6 (by omega)]at hz;exact dx i z hi hz
 ·rw[if_pos aN];refine⟨c1,c2,by rw[aZ];exact c3,s,c4,?_⟩;rw[aZ];have e0:t=t++#[]:=by simp
  rw[e0];exact c5.keep (λ_=>rfl) rfl rfl λsK g hg=>by rw[T6 (by omega)]at hg;exact sK g hg
end
def MJ (P:Tl)(Post:Uf->Uu->Prop)(n0:Nat)(W0:Uu)(V:View)(g:Tj):Prop:=
 g.status=.running/\∀gs w sl t K Im ic ph st,Inv P n0 W0 V gs w t K Im ic ph st->wR V.role ph->kN gs g->Ok P Post (crowd gs w sl) t
section
variable {P:Tl}{Post:Uf->Uu->Prop}{n0:Nat}{W0:Uu}
def agp (P:Tl)(Post:Uf->Uu->Prop)(gs:SQ)(w:Uu)(sl:S6)(t:Vq):Prop:=
 (∃m' ops,runT P (crowd gs w sl) 0=(.next m',ops)/\Ok P Post m' (t++ops))\/∃o w' ops,runT P (crowd gs w sl) 0=(.ended o w',ops)/\∀w0 FX,X0 P Post (crowd gs w0 FX) o w' (t++ops)
def kN.pos{gs:SQ}{g:Tj}(h:kN gs g):∃(i:Nat)(x:Tj),gs[i]?=some x/\x.status=.running:=by
 obtain⟨g0,h0,h1,_⟩:=h;exact⟨0,g0,h0,h1⟩
def MJ.ja{V:View}{g:Tj}(hg:g.status=.running)(own:∀gs w sl t K Im ic ph st,Inv P n0 W0 V gs w t K Im ic ph st->wR V.role ph->kN gs g->agp P Post gs w sl t):MJ P Post n0 W0 V g:=by
 refine⟨hg,λgs w sl t K Im ic ph st h hr hm=> ?_⟩;generalize hN:gs.size=N;generalize hμ:((λj=>(K j).dg),flag gs ic)=μ;induction μ using(adB N).induction generalizing gs w sl t K st with
 |_ μ ih=>
  obtain⟨i,gi,d,pA,aQ,bQ,aP⟩:=aw9 (P:=P) (w:=w) (sl:=sl) (h.awake (.inl hm)) hm.pos;have hd:=h.draw d;rcases Vu i with rfl|hi
  ·rcases own _ _ pA _ _ _ _ _ _ hd hr hm with⟨m',ops,h1,h2⟩|⟨o,w',ops,h1,h2⟩
   ·exact Ok.step (aP.trans h1) h2
   ·exact Ok.end (aP.trans h1) (h2 w sl)
  ·rcases hd.other (sl:=pA) (.inl hm) hi aQ bQ with⟨gs',w',ops,K',st',h1,h2,h3,h4,_,h5⟩|⟨p,_,_,jE⟩
   ·have p8:kN gs' g:=by
     cases ph with
     |none=>exact(h4 g 0 (by simp)).1 hm
     |some p=>exact(h4 g p.c (λq hq=>by cases hq;rfl)).1 hm
    exact Ok.step (aP.trans h1) (ih _ (by rw[<- hμ,<- hN];exact h5) gs' w' pA _ K' st' h3 p8 (by rw[h2,hN]) rfl)
   ·obtain⟨g0,h0,hs,_⟩:=hm;obtain⟨g1,z,h1,_⟩:=jE;rw[h1]at h0;cases h0;cases hs
def MJ.recv{V:View}{g:Tj}{c Wg:Nat}{Ss:TA}{z:Uf}(jF:V.role=.recv c Wg Ss)(ii:V.deaf=0)(hg:g.status=.running)
  (lM:∀w,Sat V w->stepG P true g w=.comm g #[rcase c z] true (.recv true) w #[])
  (J1:∀(i:Nat) sp S v Im Ow,Ss[i]?=some (sp::S)->sp v Im Ow->(∀b,V.own b≠none->Ow b=none)->(∀b o,V.own b≠none->Im b o≠none->V.ai b o≠none)->(∃w,Sat V w/\(∀b o x,Im b o=some x->w.cell? ⟨b,o,none⟩=some x)/\∀b x,Ow b=some x->w.heap[b]?=some x)->
   MJ P Post n0 W0 (oA V Im Ow (.recv c Wg (Ss.set i S))) (U9 g (.tuple #[v,.bool true])))
  (J2:(∀S∈Ss,S=[])->MJ P Post n0 W0 {V with role:=.plain} (U9 g (.tuple #[z,.bool false]))):MJ P Post n0 W0 V g:=by
 have met:∀{gs w sl t K Im ic st i},Inv P n0 W0 V gs w t K Im ic (some ⟨c,Wg,Ss,true⟩) st->Gs P n0 W0 V gs w sl t Im ic ⟨c,Wg,Ss,true⟩ st g i->∀{m},stepT P m=runT P (crowd gs w sl) i->Ok P Post m t:=by
  rintro gs w sl t K Im ic st i _ ⟨gs',w',ops,K',j,sp,S,v,ln,Ow,h1,h2,h3,h4,h5,h6,h6',h7,h8⟩ m hm
  exact Ok.step (hm.trans h1) ((J1 j sp S v ln Ow h4 h5 h6 h6' h7).2 gs' w' sl _ K' Im ic _ st h8 rfl h3)
 refine⟨hg,λgs w sl t K Im ic ph st h hr hm=> ?_⟩;have io:ph=some ⟨c,Wg,Ss,true⟩:=by rw[jF]at hr;exact hr
 subst io
 suffices key:∀N μ gs w sl t K st,Inv P n0 W0 V gs w t K Im ic (some ⟨c,Wg,Ss,true⟩) st->gs.size=N->((λj=>(K j).dg),flag gs ic)=μ->(kN gs g\/(oJ gs g c/\Calm gs/\AD w c))->Ok P Post (crowd gs w sl) t from key _ _ gs w sl t K st h rfl rfl (.inl hm)
 clear h hr hm;intro N μ;induction μ using(adB N).induction with
 |_ μ ih=>
  have A:∀gs w sl t K st,Inv P n0 W0 V gs w t K Im ic (some ⟨c,Wg,Ss,true⟩) st->gs.size=N->((λj=>(K j).dg),flag gs ic)=μ->oJ gs g c->Calm gs->AD w c->Ok P Post (crowd gs w sl) t:=by
   intro gs w sl t K st h hN hμ jE uf ho;have oi:kN gs g\/∃p,some (Phase.mk c Wg Ss true)=some p/\p.recv=true/\V.deaf=0/\oJ gs g p.c:=.inr ⟨_,rfl,rfl,ii,jE⟩;have aoc:∃(i:Nat)(x:Tj),gs[i]?=some x/\x.status=.running:=by
    obtain⟨i,x,_,h1,h2⟩:=h.att rfl ho uf;exact⟨i,x,h1,h2⟩
   obtain⟨i,gi,d,pA,aQ,bQ,aP⟩:=aw9 (P:=P) (w:=w) (sl:=sl) (h.awake oi) aoc;have hd:=h.draw d;have hi:0<i:=by
    rcases Vu i with rfl|hi
    ·obtain⟨g1,z1,h1,_⟩:=jE;rw[h1]at aQ;cases aQ;cases bQ
    ·exact hi
   rcases hd.other (sl:=pA) oi hi aQ bQ with⟨gs',w',ops,K',st',h1,h2,h3,h4,h5,h6⟩|⟨p,hp,vW,_⟩
   ·refine Ok.step (aP.trans h1) (ih _ (by rw[<- hμ,<- hN];exact h6) gs' w' pA _ K' st' h3 (by rw[h2,hN]) rfl ?_);rcases(h4 g c (λq hq=>by cases hq;rfl)).2 jE ho with x|⟨x,y⟩
    ·exact .inl x
    ·exact .inr ⟨x,h5 g c jE uf,y⟩
   ·cases hp;exact met hd vW aP
  intro gs w sl t K st h hN hμ p8;rcases p8 with hm|⟨h1,h2,h3⟩
  ·obtain⟨i,gi,d,pA,aQ,bQ,aP⟩:=aw9 (P:=P) (w:=w) (sl:=sl) (h.awake (.inl hm)) hm.pos;have hd:=h.draw d;rcases Vu i with rfl|hi
   ·
    obtain⟨g0,h0,l8,lE,jj,nm⟩:=hm;have fV:Sat V (w.at d):=(by have:=hd.core.sat 0 h.pos;rwa[lj]at this);have lL:stepG P (0==0) g0 (w.at d)=.comm g #[rcase c z] true (.recv true) (w.at d) #[]:=(by rw[<- lM _ fV];exact Yg lE jj nm _);have e0:(t++Ui 0 g0.frame.fn g0.frame.place #[])=t:=(by simp[Ui]);rcases hd.opens rfl with⟨n,im⟩|⟨anl,⟨n,bi⟩,_⟩
    ·by_cases acn:∃i j h' V₁ V₂ g1 v z1,0<i/\i<gs.size/\K i=.oG j h' V₁ V₂ g1 v z1
     ·exact met hd (hd.asj (sl:=pA) rfl ii ⟨g0,h0,l8,lE,jj,nm⟩ (lM _ fV) acn) aP
     ·have offers:∀m x,0<m->gs[m]?=some x->x.status=.blocked->x.offers=none:=by
       intro m x eB hx hb;rcases GS.runs (show (K m).is P c Wg Im Ss (VZ t m) x from h.is m x eB hx)with e|⟨e,_⟩|⟨j,h',V1,V2,g1,v,z1,e⟩|⟨_,_,e⟩
       ·rw[e]at hb;cases hb
       ·rw[e]at hb;cases hb
       ·exact absurd ⟨m,j,h',V1,V2,g1,v,z1,eB,(T5.1 hx).1,e⟩ acn
       ·exact e
      have hw:=crowd_waits (P:=P) (sl:=pA) (i:=0) h0 lL (λcc jA=>by
       simp only[UR,Tm,T7,or_false]at jA;subst jA;refine ways_recv_none im (partners_nil λm x hx=> ?_);rcases Zd gs 0 m x hx with⟨_,rfl⟩|⟨eB,jY⟩
       ·exact aj_ _ _
       ·by_cases hb:x.status=.blocked
        ·unfold offersAt;simp[hb,offers m x (by omega) jY hb]
        ·exact Wc hb _ _)
      refine Ok.step (aP.trans hw) ?_;rw[e0];refine A _ (w.at d) pA t K st (hd.apY rfl _) (by simp[hN]) ?_ ⟨g,z,?_,rfl,rfl,rfl⟩ (λm x eB hx hb=> ?_) ⟨n,im⟩
      ·rw[<- hμ];have gB:0<ic:=(by obtain⟨_,_,x,_⟩:=h.mode rfl;exact x);unfold flag;rw[T6 (by omega)]
      ·rw[Ug h.pos]
      ·rw[T6 (by omega)]at hx;exact offers m x eB hx hb
    ·have hp:partners (gs.setIfInBounds 0 ph) c true=[]:=partners_nil λm x hx=>by
      rcases Zd gs 0 m x hx with⟨_,rfl⟩|⟨eB,jY⟩
      ·exact aj_ _ _
      ·have hlt:m<gs.size:=(T5.1 jY).1;rcases GS.runs (show (K m).is P c Wg Im Ss (VZ t m) x from h.is m x (by omega) jY)with e|⟨e,_⟩|⟨j,h',V1,V2,g1,v,z1,e⟩|⟨_,eb,e⟩
       ·exact Wc (by rw[e];simp) _ _
       ·exact Wc (by rw[e];simp) _ _
       ·have:=anl m (by omega) hlt;rw[e]at this;cases this
       ·unfold offersAt;simp[eb,e]
     have hw:=crowd_recv_closed (P:=P) (sl:=pA) (i:=0) h0 lL bi hp;refine Ok.step (aP.trans hw) ?_;rw[Zx,<- Yv,e0];obtain⟨hS,hinv⟩:=hd.ato rfl ii (g0:=g0) (g':=U9 g (recvd true z false)) bi (y:={g:=0,fn:=g.frame.fn,pos:=g.frame.place,act:=.recvClosed c}) ⟨rfl,rfl⟩;exact(J2 hS).2 _ (w.at d) pA _ K Im ic none none hinv rfl ⟨U9 g (recvd true z false),by rw[Ug h.pos],rfl,rfl,rfl,rfl⟩
   ·rcases hd.other (sl:=pA) (.inl hm) hi aQ bQ with⟨gs',w',ops,K',st',h1,h2,h3,h4,_,h5⟩|⟨p,_,_,jE⟩
    ·exact Ok.step (aP.trans h1) (ih _ (by rw[<- hμ,<- hN];exact h5) gs' w' pA _ K' st' h3 (by rw[h2,hN]) rfl (.inl ((h4 g c (λq hq=>by cases hq;rfl)).1 hm)))
    ·obtain⟨g0,h0,hs,_⟩:=hm;obtain⟨g1,z1,h1,_⟩:=jE;rw[h1]at h0;cases h0;cases hs
  ·exact A gs w sl t K st h hN hμ h1 h2 h3
def aqd:Closed true P true (MJ P Post n0 W0)where
 step V g hs h:=by
  refine MJ.ja hs λgs w sl t K Im ic ph st hI hr ⟨g0,h0,l8,lE,jj,nm⟩=> .inl ?_;have fV:Sat V w:=by have:=hI.core.sat 0 hI.pos;rwa[lj]at this
  obtain⟨g',w',es,V',h1,h2,h3⟩:=h w fV;have aP:stepG P (0==0) g0 w=.go g' w' es:=by rw[<- h1];exact Yg lE jj nm w
  refine⟨_,_,runT_crowd_go h0 aP,h3.2 _ w' sl _ K Im ic ph st (hI.adt h0 h2 hr) (by rw[h2.role];exact hr) ⟨g',?_,h3.1,rfl,rfl,rfl⟩⟩;rw[Ug (by simpa using hI.pos)]
 ghost V V' g hg h:=⟨h.1,λgs w sl t K Im ic ph st hI hr hm=>h.2 gs w sl t K Im ic ph st (hI.apX hg hr) (by rw[hg.role];exact hr) hm⟩
 send V g c Wg sp S v z B hr hd hs ho h1 h2 h3:=⟨hs,λgs w sl t K Im ic ph st hI cy hm=>by rw[hr]at cy;exact cy.elim⟩
 done V g c Wg hr hd h1:=⟨h1.1,λgs w sl t K Im ic ph st hI cy hm=>by rw[hr]at cy;exact cy.elim⟩
 slip V g g' c Wg hr hs h1 h2:=⟨hs,λgs w sl t K Im ic ph st hI cy hm=>by rw[hr]at cy;exact cy.elim⟩
 more _:={
  start:=λV g c Wg hr aF hc hW oT h=>⟨h.1,λgs w sl t K Im ic ph st hI cy hm=>by
   rw[hr]at cy;cases cy;exact h.2 gs w sl t _ Im 0 _ _ (hI.begin aF hc hW oT) rfl hm⟩
  Hm:=λV g g' child c Wg Ss sp S hr hd hs hc hW hlen oT aP fy N8 h=>by
   refine MJ.ja hs λgs w sl t K Im ic ph st hI cy ⟨g0,h0,l8,lE,jj,nm⟩=> .inl ?_;rw[hr]at cy;cases cy;have fV:Sat V w:=(by have:=hI.core.sat 0 hI.pos;rwa[lj]at this);have mf:stepG P (0==0) g0 w=.spawn g' child w #[]:=(by rw[<- aP w fV];exact Yg lE jj nm w);obtain⟨hh,hk⟩:=N8 _ (avi P);have bQ:=axn (P:=P) (sl:=sl) h0 mf;have e0:Ui 0 g0.frame.fn g0.frame.place #[]=#[]:=rfl;rw[e0]at bQ;have hinv:=hI.Hm (g':=g') (x:={g:=0,fn:=g0.frame.fn,pos:=g0.frame.place,act:=.go gs.size}) (y:={g:=gs.size,fn:=child.frame.fn,pos:=g0.frame.place,act:=.start}) rfl hd ⟨rfl,rfl⟩ ⟨rfl,rfl⟩ hlen oT hk;exact⟨_,_,bQ,h.2 _ w sl _ _ Im ic _ _ hinv rfl ⟨g',by rw[Yl,if_neg (by simp;have:=hI.pos;omega),Ug hI.pos],h.1,rfl,rfl,rfl⟩⟩
  Hl:=λV g g' child c Wg Ss hr hd hs aF hc hW Bq oT aP fy bi h=>by
   refine MJ.ja hs λgs w sl t K Im ic ph st hI cy ⟨g0,h0,l8,lE,jj,nm⟩=> .inl ?_;rw[hr]at cy;cases cy;have fV:Sat V w:=(by have:=hI.core.sat 0 hI.pos;rwa[lj]at this);have mf:stepG P (0==0) g0 w=.spawn g' child w #[]:=(by rw[<- aP w fV];exact Yg lE jj nm w);obtain⟨n,hk⟩:=bi;have bQ:=axn (P:=P) (sl:=sl) h0 mf;have e0:Ui 0 g0.frame.fn g0.frame.place #[]=#[]:=rfl;rw[e0]at bQ;have hinv:=hI.Hl (g':=g') (x:={g:=0,fn:=g0.frame.fn,pos:=g0.frame.place,act:=.go gs.size}) (y:={g:=gs.size,fn:=child.frame.fn,pos:=g0.frame.place,act:=.start}) rfl hd ⟨rfl,rfl⟩ ⟨rfl,rfl⟩ hW oT hk;exact⟨_,_,bQ,h.2 _ w sl _ _ V.ai gs.size _ _ hinv rfl ⟨g',by rw[Yl,if_neg (by simp;have:=hI.pos;omega),Ug hI.pos],h.1,rfl,rfl,rfl⟩⟩
  recv:=λV g c Wg Ss z hr hd hs ho aP j1 j2=>MJ.recv hr hd hs aP j1 j2}
structure Left (n0:Nat)(W0 w:Uu):Prop where
 tape:w.tape=W0.tape
 os:w.os=W0.os
 out:w.output=W0.output
 old:∀b,b<n0->w.heap[b]?=W0.heap[b]?
 size:n0<=w.heap.size
def Inv.L9{V:View}{gs:SQ}{w:Uu}{t:Vq}{K:Nat->GS}{Im:cG}{ic:Nat}{st:TG}(h:Inv P n0 W0 V gs w t K Im ic none st){v:Uf}(hp:Post v w)(w0:Uu)(FX:S6):X0 P Post (crowd gs w0 FX) (.done v) w t:=by
 obtain⟨dx,iC,nu,aP⟩:=h.out;have mf:st=none:=aP;refine⟨v,rfl,hp,iC.ti.nr,?_,⟨?_,rfl⟩,?_⟩
 ·intro i g hg l8 ⟨x,hx,hm,hk⟩;rcases nu i x hx hm with⟨q,z,h1,h2,h3⟩|⟨h1,h2⟩|⟨_,h1,_⟩
  ·rcases h3 with rfl|h3
   ·exfalso;simp only[XB,h1,VS,Us]at hg;omega
   ·exact⟨q,by simp[XB,h1,h2],h3⟩
  ·rcases hk with hk|hk
   ·exact absurd h1 hk
   ·exact absurd hk h2
  ·rw[mf]at h1;cases h1
 ·intro g hg;obtain⟨i,hi⟩:=VU.1 hg;rw[Vs]at hi;have cI:gs[1+i]?=some g:=by simpa[crowd]using hi
  obtain⟨q,_,hq⟩:=dx (1+i) g (by omega) cI;exact⟨q,hq.leaves⟩
 ·intro i g hi eU;obtain⟨q,_,hq⟩:=dx i g (by omega) hi;exact⟨q,hq.hears _⟩
def MJ.end{V:View}{g:Tj}(hg:g.status=.running)(hr:V.role=.plain)
  (h:∀w,Sat V w->Left n0 W0 w->(∀b,b<n0->V.own b=none)->∃v w' es V',stepG P true g w=.ended (.done v) w' es/\du V w V' w' es/\Post v w'):MJ P Post n0 W0 V g:=by
 refine MJ.ja hg λgs w sl t K Im ic ph st hI cy ⟨g0,h0,l8,lE,jj,nm⟩=> .inr ?_;have iC:=hI.out.2.1;have fV:Sat V w:=by have:=hI.core.sat 0 hI.pos;rwa[lj]at this
 obtain⟨v,w',es,V',h1,h2,h3⟩:=h w fV ⟨iC.tape,iC.os,iC.out,iC.old,iC.n0⟩ (λb hb=>by have:=iC.jJ 0 hI.pos b hb;rwa[lj]at this);have aP:stepG P (0==0) g0 w=.ended (.done v) w' es:=by rw[<- h1];exact Yg lE jj nm w
 refine⟨_,w',_,runT_crowd_ended h0 aP,λw0 FX=> ?_⟩;have io:ph=none:=by rw[hr]at cy;exact cy
 subst io;have hinv:=hI.adt (g':=g0) h0 h2 cy;have uj:=hinv.L9 (Post:=Post) h3 w0 FX;obtain⟨v',e,hp,hn,hh,hl,hd⟩:=uj;refine⟨v',e,hp,hn,hh,⟨?_,rfl⟩,?_⟩
 ·intro g MZ;obtain⟨i,hi⟩:=VU.1 MZ;rw[Vs]at hi;have cI:gs[1+i]?=some g:=by simpa[crowd]using hi
  obtain⟨q,_,hq⟩:=hI.out.1 (1+i) g (by omega) cI;exact⟨q,hq.leaves⟩
 ·intro i g hi eU;obtain⟨q,_,hq⟩:=hI.out.1 i g (by omega) hi;refine⟨q,?_⟩;have:(t++Ui 0 g0.frame.fn g0.frame.place es).deaf i (t++Ui 0 g0.frame.fn g0.frame.place es).size=VZ t i:=
   ayb t (g:=i) (g':=0) (by omega) _ λop az=>by obtain⟨e,_,rfl⟩:=UU az;rfl
  rw[this];exact hq.hears _
def Inv.init(W:Uu){V:View}(ho:V.own=λ_=>none)(hd:V.deaf=0)(hs:Sat V W)(g:Tj):Inv P W.heap.size W V #[g] W #[] (λ_=> .gone 0) V.ai 0 none none:=by
 have fS:∀i,i<(1:Nat)->bO V V.ai (λ_=> .gone 0) i=V:=λi hi=>by
  obtain rfl:i=0:=by omega
  simp[bO]
 refine Inv.mk' (by simp) rfl (by rw[hd];rfl) (λi x hi hx=> ?_) ⟨λi hi=>by rw[fS i hi];exact hs,λi j hi hj kH=> ?_,?_,rfl,rfl,rfl,λ_ _=>rfl,λi hi b _=>by rw[fS i hi,ho],Ts _⟩ ?_ rfl
 ·exfalso;have:=(T5.1 hx).1;simp at this;omega
 ·simp at hi hj;omega
 ·refine⟨λsaid hr=> ?_,by simp,by simp,by simp,λi _ l _ idx a ha=> ?_,λi _ l _ idx a ha=> ?_,λidx a ha=> ?_⟩
  ·obtain⟨i,j,_,⟨a,b,ha,_⟩,_⟩:=hr;obtain⟨op,az,_⟩:=Wb ha;simp at az
  ·obtain⟨op,az,_⟩:=Wb ha;simp at az
  ·obtain⟨op,az,_⟩:=Wb ha;simp at az
  ·obtain⟨op,az,_⟩:=Wb ha;simp at az
 ·intro idx a ha _;obtain⟨op,az,_⟩:=Wb ha;simp at az
def alZ{f:UW}{args:SG}{W:Uu}{V:View}{R:SU}(hi:P.inits.idxOf? f=none)(ho:V.own=λ_=>none)(hd:V.deaf=0)(cy:V.role=.plain)(hs:Sat V W)(h:Body true P f args .normal V R)
  (hR:∀o V',R o V'->V'.role=.plain/\∃v,o=.ret v/\∀w,Sat V' w->Left W.heap.size W w->Post v w):
  ∃M last o w' t',runNT P (M+1) (solo (G (Frame.enter P f args .normal) []) W) #[]=(.ended o w',t')/\runN P M (solo (G (Frame.enter P f args .normal) []) W)=.next last/\step P last=.ended o w'/\X0 P Post last o w' t':=by
 have hJ:MJ P Post W.heap.size W V (G (Frame.enter P f args .normal) []):=by
  refine h true _ aqd [] λo V' fr r hl=> ?_;obtain⟨hr,v,rfl,hp⟩:=hR _ _ r;obtain⟨rfl,bI,hk,fn,hf,hm,gV⟩:=hl;refine MJ.end rfl hr λw hw BA hold=> ?_;obtain⟨es,w',aV,h1,h2,h3⟩:=gV.runs hw;rcases h3 with⟨x,h3,rfl,rfl⟩|⟨_,_,hx⟩
  ·refine⟨x,w',seen P fr.fn es,aV,by simp[G,stepG,unwind,doReturn,hm,bI,hk,hf,h3,h2,U8,hi],h1.seen P fr.fn,?_⟩;refine hp w' h1.sat ⟨h1.tape.trans BA.tape,h1.os.trans BA.os,h1.output.trans BA.out,λb hb=> ?_,UK BA.size h1.size⟩;rw[h1.frame b (Uk hb BA.size) (hold b hb)];exact BA.old b hb
  ·exact hx.elim
 exact hJ.2 #[_] W none #[] _ _ _ none none (Inv.init W ho hd hs _) (by rw[cy];rfl) ⟨_,rfl,rfl,rfl,rfl,rfl⟩
end
def gW (P:Tl)(main:Bool)(g:Tj):Tj:=match stepG P main g default with
 |.go g' _ _=>g'
 |_=>g
def B_ (P:Tl)(main:Bool)(g:Tj):Array XH:=match stepG P main g default with
 |.go _ _ es=>es
 |_=>#[]
def cK (P:Tl)(main:Bool):Nat->Tj->Tj
 |0,g=>g
 |n+1,g=>cK P main n (gW P main g)
def gr (P:Tl)(main:Bool)(w:Uu):Nat->Tj->List aq_
 |0,_=>[]
 |n+1,g=>stepG P main g w::gr P main w n (gW P main g)
def gh (P:Tl)(main:Bool)(w:Uu):Nat->Tj->List aq_
 |0,_=>[]
 |n+1,g=> .go (gW P main g) w (B_ P main g)::gh P main w n (gW P main g)
def bW (g:Tj):Bool:=match g.status with
 |.running=>true
 |_=>false
def bW.out{g:Tj}(h:bW g=true):g.status=.running:=by
 unfold bW at h;split at h
 ·assumption
 ·cases h
def jo (P:Tl)(main:Bool):Nat->Tj->Bool
 |0,_=>true
 |n+1,g=>bW g&&(B_ P main g).all XG&&jo P main n (gW P main g)
def pw (P:Tl)(main:Bool):Nat->Tj->Bool
 |0,_=>true
 |n+1,g=>bW g&&(B_ P main g).isEmpty&&pw P main n (gW P main g)
def j7 (P:Tl)(main:Bool):Nat->Nat->Tj->Nat
 |0,d,_=>d
 |n+1,d,g=>j7 P main n (deafBehind d (B_ P main g)) (gW P main g)
section
variable {P:Tl}
def O7{n:Nat}{main:Bool}{g:Tj}(h:jo P main (n+1) g=true):g.status=.running/\(∀e∈B_ P main g,XG e=true)/\jo P main n (gW P main g)=true:=by
 simp only[jo,Uh]at h;exact⟨bW.out h.1.1,λe he=>VM.1 h.1.2 e he,h.2⟩
def yb{Stop:S0}:∀(n d:Nat)(g:Tj),(∀w,gr P false w n g=gh P false w n g)->jo P false n g=true->(∃m,cY P Stop m (j7 P false n d g) (cK P false n g))->∃m,cY P Stop m d g
 |0,d,g,_,_,hs=>hs
 |n+1,d,g,h,hm,hs=>by
  obtain⟨h1,h2,h3⟩:=O7 hm;obtain⟨m,hm⟩:=yb n _ (gW P false g) (λw=>(WM (h w)).2) h3 hs;exact⟨m+1,.inr ⟨h1,_,_,h2,λw=>(WM (h w)).1,hm⟩⟩
def aeY{Wg:Nat}{Stop:S0}:∀(n d:Nat)(g:Tj),(∀w,gr P false w n g=gh P false w n g)->jo P false n g=true->(∃m,iJ P Wg Stop m (j7 P false n d g) (cK P false n g))->∃m,iJ P Wg Stop m d g
 |0,d,g,_,_,hs=>hs
 |n+1,d,g,h,hm,hs=>by
  obtain⟨h1,h2,h3⟩:=O7 hm;obtain⟨m,hm⟩:=aeY n _ (gW P false g) (λw=>(WM (h w)).2) h3 hs;exact⟨m+1,.inr ⟨h1,_,_,h2,λw _ _ _=>(WM (h w)).1,hm⟩⟩
def aeZ{Wg:Nat}{Stop:S0}{d:Nat}{g g':Tj}(hr:g.status=.running)(h:∀w x y,WgAt P Wg w x y->stepG P false g w=.go g' w #[]) (hs:∃m,iJ P Wg Stop m d g'):∃m,iJ P Wg Stop m d g:=by
 obtain⟨m,hm⟩:=hs;exact⟨m+1,.inr ⟨hr,g',#[],by simp,h,by simpa[deafBehind]using hm⟩⟩
def Jr:∀(n d:Nat)(g:Tj),(∀w,gr P false w n g=gh P false w n g)->jo P false n g=true->(∃q,Z8 P q (j7 P false n d g) (cK P false n g))->∃q,Z8 P q d g
 |0,d,g,_,_,hs=>hs
 |n+1,d,g,h,hm,hs=>by
  obtain⟨h1,h2,h3⟩:=O7 hm;obtain⟨m,hm⟩:=Jr n _ (gW P false g) (λw=>(WM (h w)).2) h3 hs;exact⟨m+1,.inr ⟨h1,_,_,h2,λw=>(WM (h w)).1,hm⟩⟩
def PS{d:Nat}{g:Tj}(h:g.status=.finished)(hd:d=0):∃q,Z8 P q d g:=⟨0,h,hd⟩
def ase{n:Nat}{main:Bool}{g:Tj}(h:pw P main (n+1) g=true):g.status=.running/\B_ P main g=#[]/\pw P main n (gW P main g)=true:=by
 simp only[pw,Uh]at h;exact⟨bW.out h.1.1,by simpa using h.1.2,h.2⟩
def uC{lv main:Bool}{J:SM}(C:Closed lv P main J){V:View}:∀(n:Nat)(g:Tj),(∀w,gr P main w n g=gh P main w n g)->pw P main n g=true->J V (cK P main n g)->J V g
 |0,g,_,_,hs=>hs
 |n+1,g,h,hm,hs=>by
  obtain⟨h1,h2,h3⟩:=ase hm;refine C.idle h1 (λw=> ?_) (uC C n (gW P main g) (λw=>(WM (h w)).2) h3 hs);rw[(WM (h w)).1,h2]
def Closed.mute{lv main:Bool}{J:SM}(C:Closed lv P main J){V:View}{g g':Tj}{m:Mark}(hm:m=.disable\/m=.enable)(hr:g.status=.running)(h:∀w,stepG P main g w=.go g' w #[⟨.mark m,false,true⟩]) (hJ:J {V with deaf:=deafBehind V.deaf #[⟨.mark m,false,true⟩]} g'):J V g:=by
 refine C.step _ _ hr λw hw=> ?_;have hs:=ata (P:=P) (V:=V) (k:=(.pure ():Sem Unit)) (K:=λ_ V'=>V'={V with deaf:=deafBehind V.deaf #[⟨.mark m,false,true⟩]}) (Kp:=λ_ _=>False) hm (cN rfl);obtain⟨es,w',V',k1,k2,k3⟩:=hs.runs hw;rcases k3 with⟨x,k3,rfl⟩|⟨_,_,hx⟩
 ·have e1:Zh () w=Zh x w':=k3;have e2:es=#[⟨.mark m,false,true⟩]:=k2.symm;cases e1;subst e2;refine⟨g',w,_,_,h w,?_,hJ⟩;rwa[uJ (by rcases hm with rfl|rfl<;>simp)]at k1
 ·exact hx.elim
def ready (g:Tj):Option Vo:=match g with
 |{frame:={fn:=_,tmps,todo:=.inRegion ops (i::_)::_,defers:=_,mode:=.run,kind,roundOf:=none},callers:=_,status:=.running,dying:=none,offers:=none}=>
  match ops[i]?with
  |some o=>if Up o (yielded ops tmps)&& !(kind== .early)then some o else none
  |none=>none
 |_=>none
def fin (g:Tj)(v:Uf):Tj:={g with frame:=g.frame.finish v}
def ready.out{g:Tj}{o:Vo}(h:ready g=some o):∃(b:VR)(a:Act)(ops:SK)(i:Nat)(rest:SE)(k:SZ)(cs:SX),g=G (b.at a (.inRegion ops (i::rest)::k)) cs/\ops[i]?=some o/\Up o (yielded ops a.tmps)=true/\b.kind≠ .early/\a.eval=g.frame.eval/\
  (∀v,G (b.at (a.put o.dst v) (.inRegion ops rest::k)) cs=fin g v)/\b.fn=g.frame.fn/\g.status=.running:=by
 unfold ready at h;split at h
 ·rename_i fn tmps ops i rest k defers kind cs;split at h
  ·rename_i o' ho;split at h
   ·rename_i hw;cases h;simp only[Uh,U0,beq_eq_false_iff_ne,ne_eq]at hw;refine⟨{(default:VR)with fn,kind},⟨tmps,defers⟩,ops,i,rest,k,cs,rfl,ho,hw.1,hw.2,?_,λv=> ?_,rfl,rfl⟩
    ·funext x;cases x<;>rfl
    ·unfold fin;have:=Frame.finish_at {(default:VR)with fn,kind} ⟨tmps,defers⟩ ops i rest k v;rw[ho]at this;simp only[Frame.at,Option.bind_some]at this⊢;rw[this];rfl
   ·cases h
  ·cases h
 ·cases h
def cF (g:Tj):Option (UW×Array Uf):=match ready g with
 |some {op:=.call {callee:=.value (.func f),args, .. }, .. }=>some (f,args.map g.frame.eval)
 |_=>none
def cF.out{g:Tj}{f:UW}{vs:SG}(h:cF g=some (f,vs)):∃o aJ mz,ready g=some o/\o.op=.call {callee:=.value (.func f),args:=aJ,argTypes:=mz}/\aJ.map g.frame.eval=vs:=by
 unfold cF at h;split at h
 ·rename_i f' aJ mz dst ty pos af gd ho;cases h;exact⟨_,_,_,ho,rfl,rfl⟩
 ·cases h
structure Ext (P:Tl)(f:UW)(e:Array Uf->Sem Uf):Prop where
 fn : ∃ fn, P.funcs[f]? = some fn /\ (fn.name == "runtime.NumGoroutine") = false /\ fn.body.isNone = true /\ Extern.findNext fn = none /\ Extern.find fn = some e
variable {main:Bool}{g:Tj}{f:UW}{w:Uu}
def ae2{v d:Int}{k:U3}{ad:WC}(h:cF g=some (f,#[.pointer (some ad),.int k d])) (he:Ext P f (YS (ayi .add) k true)) (hc:w.cell? ad=some (.int k v)) (hz:w.frozen? ad=false):
  stepG P main g w=.go (fin g (.int k (k.wrap (v+d)))) (w.setCell ad (.int k (k.wrap (v+d)))) #[⟨.cell ad,false,true⟩,⟨.cell ad,true,true⟩]:=by
 obtain⟨o,aJ,mz,h1,h2,h3⟩:=cF.out h;obtain⟨b,a,ops,i,rest,kk,cs,e,q1,q2,q3,q4,q5,q6,_⟩:=ready.out h1;obtain⟨fn,f1,f2,f3,f4,f5⟩:=he.fn;rw[<- q4]at h3;rw[<- q5];refine W1 (congrArg (λx=>stepG P main x w) e) ?_;exact aq' q1 q2 q3 h2 f1 f2 f3 f4 f5 (by rw[h3];exact run_add_entry hc hz) (by rw[h3,events_add_entry hc hz];rfl) (sync_rw ad)
def Qh{v:Int}{k:U3}{ad:WC}(h:cF g=some (f,#[.pointer (some ad)])) (he:Ext P f (Y7 (.int k))) (hc:w.cell? ad=some (.int k v)):
  stepG P main g w=.go (fin g (.int k v)) w #[⟨.cell ad,false,true⟩]:=by
 obtain⟨o,aJ,mz,h1,h2,h3⟩:=cF.out h;obtain⟨b,a,ops,i,rest,kk,cs,e,q1,q2,q3,q4,q5,q6,_⟩:=ready.out h1;obtain⟨fn,f1,f2,f3,f4,f5⟩:=he.fn;rw[<- q4]at h3;rw[<- q5];refine W1 (congrArg (λx=>stepG P main x w) e) ?_;obtain⟨x,rfl⟩:∃x,aJ=#[x]:=by
  have:aJ.size=1:=by have:=congrArg axq h3;simpa using this
  exact Array.size_eq_one_iff.1 this
 exact stepG_load_atomic q1 q2 q3 h2 f1 f2 f3 f4 k f5 (by simpa using h3) hc
def atL{v:Int}{u:Uf}{k:U3}{ad:WC}(h:cF g=some (f,#[.pointer (some ad),.int k v])) (he:Ext P f YT) (hc:w.cell? ad=some u) (hz:w.frozen? ad=false):
  stepG P main g w=.go (fin g (.tuple #[])) (w.setCell ad (.int k v)) #[⟨.cell ad,true,true⟩]:=by
 obtain⟨o,aJ,mz,h1,h2,h3⟩:=cF.out h;obtain⟨b,a,ops,i,rest,kk,cs,e,q1,q2,q3,q4,q5,q6,_⟩:=ready.out h1;obtain⟨fn,f1,f2,f3,f4,f5⟩:=he.fn;rw[<- q4]at h3;rw[<- q5];refine W1 (congrArg (λx=>stepG P main x w) e) ?_;obtain⟨x,y,rfl⟩:∃x y,aJ=#[x,y]:=by
  have:aJ.toList.length=2:=by have:=congrArg axq h3;simpa using this
  obtain⟨l⟩:=aJ
  match l,this with
  |[x,y],_=>exact⟨x,y,rfl⟩
 have xh:a.eval x=.pointer (some ad)/\a.eval y=.int k v:=by simpa using h3
 exact stepG_store_atomic q1 q2 q3 h2 f1 f2 f3 f4 f5 xh.1 xh.2 hc hz
def atD{v n:Int}{k:U3}{ad:WC}(h:cF g=some (f,#[.pointer (some ad),.int k v,.int k n])) (he:Ext P f (XV (.int k))) (hc:w.cell? ad=some (.int k v)) (hz:w.frozen? ad=false):
  stepG P main g w=.go (fin g (.bool true)) (w.setCell ad (.int k n)) #[⟨.cell ad,false,true⟩,⟨.cell ad,true,true⟩]:=by
 obtain⟨o,aJ,mz,h1,h2,h3⟩:=cF.out h;obtain⟨b,a,ops,i,rest,kk,cs,e,q1,q2,q3,q4,q5,q6,_⟩:=ready.out h1;obtain⟨fn,f1,f2,f3,f4,f5⟩:=he.fn;rw[<- q4]at h3;rw[<- q5];refine W1 (congrArg (λx=>stepG P main x w) e) ?_;exact aq' q1 q2 q3 h2 f1 f2 f3 f4 f5 (by rw[h3,axe];exact run_cas_hit_entry hc hz) (by rw[h3,axe,events_cas_hit_entry hc hz];rfl) (sync_rw ad)
def atE{v old n:Int}{k:U3}{ad:WC}(h:cF g=some (f,#[.pointer (some ad),.int k old,.int k n])) (he:Ext P f (XV (.int k))) (hc:w.cell? ad=some (.int k v)) (hz:w.frozen? ad=false) (aF:¬v=old):
  stepG P main g w=.go (fin g (.bool false)) w #[⟨.cell ad,false,true⟩]:=by
 obtain⟨o,aJ,mz,h1,h2,h3⟩:=cF.out h;obtain⟨b,a,ops,i,rest,kk,cs,e,q1,q2,q3,q4,q5,q6,_⟩:=ready.out h1;obtain⟨fn,f1,f2,f3,f4,f5⟩:=he.fn;rw[<- q4]at h3;rw[<- q5];refine W1 (congrArg (λx=>stepG P main x w) e) ?_;exact aq' q1 q2 q3 h2 f1 f2 f3 f4 f5 (by rw[h3,axe];exact run_cas_miss_entry hc hz aF) (by rw[h3,axe,events_cas_miss_entry hc hz aF];rfl) (sync_r ad)
def atJ{n:Int}{x y:Uf}{ad:WC}(h:cF g=some (f,#[.pointer (some ad),x,y])) (he:Ext P f YR) (hc:w.cell? ad=some (.int .u32 n)) (hz:w.frozen? ad=false):
  stepG P main g w=.go (fin g (.tuple #[])) (w.setCell ad (.int .u32 (axG.wrap (n+1)))) (semEvents ad):=by
 obtain⟨o,aJ,mz,h1,h2,h3⟩:=cF.out h;obtain⟨b,a,ops,i,rest,kk,cs,e,q1,q2,q3,q4,q5,q6,_⟩:=ready.out h1;obtain⟨fn,f1,f2,f3,f4,f5⟩:=he.fn;rw[<- q4]at h3;rw[<- q5];refine W1 (congrArg (λx=>stepG P main x w) e) ?_;exact stepG_semrelease q1 q2 q3 h2 f1 f2 f3 f4 f5 (by rw[h3];rfl) hc hz
def atH{n:Int}{x:Uf}{ad:WC}(h:cF g=some (f,#[.pointer (some ad),x])) (he:Ext P f XF) (hc:w.cell? ad=some (.int .u32 n)) (hn:n≠0) (hz:w.frozen? ad=false):
  stepG P main g w=.go (fin g (.tuple #[])) (w.setCell ad (.int .u32 (n-1))) (semEvents ad):=by
 obtain⟨o,aJ,mz,h1,h2,h3⟩:=cF.out h;obtain⟨b,a,ops,i,rest,kk,cs,e,q1,q2,q3,q4,q5,q6,_⟩:=ready.out h1;obtain⟨fn,f1,f2,f3,f4,f5⟩:=he.fn;rw[<- q4]at h3;rw[<- q5];refine W1 (congrArg (λx=>stepG P main x w) e) ?_;exact stepG_semacquire q1 q2 q3 h2 f1 f2 f3 f4 f5 (by rw[h3];rfl) hc hn hz
def atK{x:Uf}{ad:WC}(h:cF g=some (f,#[.pointer (some ad),x])) (he:Ext P f XF) (hc:w.cell? ad=some (.int .u32 0)):
  stepG P main g w=.go {g with status:=.blocked} w #[]:=by
 obtain⟨o,aJ,mz,h1,h2,h3⟩:=cF.out h;obtain⟨b,a,ops,i,rest,kk,cs,e,q1,q2,q3,q4,q5,q6,_⟩:=ready.out h1;obtain⟨fn,f1,f2,f3,f4,f5⟩:=he.fn;rw[<- q4]at h3;rw[e];exact stepG_semacquire_wait q1 q2 h2 f1 f2 f3 f4 f5 (by rw[h3];rfl) hc
def JD{ad:WC}(mk:WC->Mark)(hm:∀ad g,mk ad≠ .extern g)(h:cF g=some (f,#[.pointer (some ad)])) (he:Ext P f (WY mk)):
  stepG P main g w=.go (fin g (.tuple #[])) w #[⟨.mark (mk ad),false,true⟩]:=by
 obtain⟨o,aJ,mz,h1,h2,h3⟩:=cF.out h;obtain⟨b,a,ops,i,rest,kk,cs,e,q1,q2,q3,q4,q5,q6,_⟩:=ready.out h1;obtain⟨fn,f1,f2,f3,f4,f5⟩:=he.fn;rw[<- q4]at h3;rw[<- q5];refine W1 (congrArg (λx=>stepG P main x w) e) ?_;exact stepG_markAt mk hm q1 q2 q3 h2 f1 f2 f3 f4 f5 (by rw[h3];rfl)
def pN (g:Tj):Option (TypeId×TypeId×Uf):=match ready g with
 |some {op:=.convert s d x, .. }=>some (s,d,g.frame.eval x)
 |_=>none
def JE{src dst t:TypeId}{ad:WC}{v:Uf}(h:pN g=some (src,dst,.pointer (some ad)))(hs:P.underlying src=some (.pointer t))(hd:P.underlying dst=some .unsafePointer)(aZ:(P.info? t).map (λi=>decide (i.size=0))=some false)(hc:w.cell? ad=some v):
  stepG P main g w=.go (fin g (.pointer (some ad))) w #[]:=by
 obtain⟨o,x,h1,h2,h3⟩:∃o x,ready g=some o/\o.op=.convert src dst x/\g.frame.eval x=.pointer (some ad):=by
  unfold pN at h;split at h
  ·rename_i s d x _ _ _ _ ho;simp only[Us,We]at h;obtain⟨rfl,rfl,h⟩:=h;exact⟨_,x,ho,rfl,h⟩
  ·cases h
 obtain⟨b,a,ops,i,rest,kk,cs,e,q1,q2,q3,q4,q5,q6,_⟩:=ready.out h1;rw[<- q4]at h3;rw[<- q5];refine W1 (congrArg (λx=>stepG P main x w) e) ?_;have hr:(execOp a.eval o).run P w=.ok (.value (.pointer (some ad))) w:=by
  unfold execOp;simp only[h2,h3];simp[run_convert_to_unsafe hs hd aZ hc]
 have cq:(execOp a.eval o).events P w #[]=#[]:=by
  unfold execOp;simp only[h2,h3];simp[events_convert_to_unsafe hs hd aZ hc]
 rw[aya q1 q2 q3 hr];unfold listed;rw[cq,axm]
end
open Go.Proofs
section
variable {P:Tl}
def Qd{Stop:S0}{d:Nat}{g g':Tj}{es:SP}(hr:g.status=.running)(hm:∀e∈es,XG e=true)(h:∀w,stepG P false g w=.go g' w es)(hs:∃m,cY P Stop m (deafBehind d es) g'):∃m,cY P Stop m d g:=by
 obtain⟨m,hs⟩:=hs;exact⟨m+1,.inr ⟨hr,g',es,hm,h,hs⟩⟩
def JC{main:Bool}{g:Tj}{f:UW}{w:Uu}{m:Mark}(hm:∀g,m≠ .extern g)(h:cF g=some (f,#[])) (he:Ext P f (λ_=>do axv m;pure X9)):stepG P main g w=.go (fin g (.tuple #[])) w #[⟨.mark m,false,true⟩]:=by
 obtain⟨o,xs,mz,h1,h2,h3⟩:=cF.out h;obtain⟨b,a,ops,i,rest,kk,cs,e,q1,q2,q3,q4,q5,q6,_⟩:=ready.out h1;obtain⟨fn,f1,f2,f3,f4,f5⟩:=he.fn;rw[<- q4]at h3;rw[<- q5];refine W1 (congrArg (λx=>stepG P main x w) e) ?_;exact stepG_mark0 m hm q1 q2 q3 h2 f1 f2 f3 f4 f5
def ae3{main:Bool}{g:Tj}{f:UW}{w:Uu}{v:Uf}{vs:SG}(h:cF g=some (f,vs))(he:Ext P f (λ_=>pure v)):stepG P main g w=.go (fin g v) w #[]:=by
 obtain⟨o,xs,mz,h1,h2,h3⟩:=cF.out h;obtain⟨b,a,ops,i,rest,kk,cs,e,q1,q2,q3,q4,q5,q6,_⟩:=ready.out h1;obtain⟨fn,f1,f2,f3,f4,f5⟩:=he.fn;rw[<- q5];refine W1 (congrArg (λx=>stepG P main x w) e) ?_;exact stepG_entry_pure v q1 q2 q3 h2 f1 f2 f3 f4 f5
def WgAt.st{Wg:Nat}{w:Uu}{st sm:Int}(h:WgAt P Wg w st sm):w.cell? ⟨Wg,0,none⟩=some (.int .u64 st)/\w.cell? ⟨Wg,1,none⟩=some (.int .u32 sm)/\w.frozen? ⟨Wg,0,none⟩=false/\w.frozen? ⟨Wg,1,none⟩=false:=by
 unfold WgAt wgBlock at h;refine⟨?_,?_,?_,?_⟩<;>simp[VC,aw4,h]
def O8{m:Mark}(hm:m=.disable\/m=.enable):∀e∈(#[⟨.mark m,false,true⟩]:SP),XG e=true:=by
 intro e he;simp only[UR,Tm,T7,or_false]at he;subst he;rcases hm with rfl|rfl<;>rfl
end
set_option maxRecDepth 100000
def ajo:Ext S_ 110 (WY .releaseMerge):=⟨⟨Tryz.f110,by kernel_rfl,by kernel_rfl,by kernel_rfl,by kernel_rfl,by kernel_rfl⟩⟩
def Lf:Ext S_ 111 (λ_=>do axv .disable;pure X9):=⟨⟨Tryz.f111,by kernel_rfl,by kernel_rfl,by kernel_rfl,by kernel_rfl,by kernel_rfl⟩⟩
def ajp:Ext S_ 112 (λ_=>do axv .enable;pure X9):=⟨⟨Tryz.f112,by kernel_rfl,by kernel_rfl,by kernel_rfl,by kernel_rfl,by kernel_rfl⟩⟩
def aae:Ext S_ 113 (λ_=>pure (.bool false)):=⟨⟨Tryz.f113,by kernel_rfl,by kernel_rfl,by kernel_rfl,by kernel_rfl,by kernel_rfl⟩⟩
def ajq:Ext S_ 118 (WY .read):=⟨⟨Tryz.f118,by kernel_rfl,by kernel_rfl,by kernel_rfl,by kernel_rfl,by kernel_rfl⟩⟩
def ajr:Ext S_ 122 YR:=⟨⟨Tryz.f122,by kernel_rfl,by kernel_rfl,by kernel_rfl,by kernel_rfl,by kernel_rfl⟩⟩
def ajs:Ext S_ 123 (WY .acquire):=⟨⟨Tryz.f123,by kernel_rfl,by kernel_rfl,by kernel_rfl,by kernel_rfl,by kernel_rfl⟩⟩
def ajt:Ext S_ 126 (WY .write):=⟨⟨Tryz.f126,by kernel_rfl,by kernel_rfl,by kernel_rfl,by kernel_rfl,by kernel_rfl⟩⟩
def aaf:Ext S_ 127 XF:=⟨⟨Tryz.f127,by kernel_rfl,by kernel_rfl,by kernel_rfl,by kernel_rfl,by kernel_rfl⟩⟩
def aag:Ext S_ 134 (YS (ayi .add) .u64 true):=⟨⟨Tryz.f134,by kernel_rfl,by kernel_rfl,by kernel_rfl,by kernel_rfl,by kernel_rfl⟩⟩
def Lg:Ext S_ 135 (Y7 (.int .u64)):=⟨⟨Tryz.f135,by kernel_rfl,by kernel_rfl,by kernel_rfl,by kernel_rfl,by kernel_rfl⟩⟩
def aju:Ext S_ 136 YT:=⟨⟨Tryz.f136,by kernel_rfl,by kernel_rfl,by kernel_rfl,by kernel_rfl,by kernel_rfl⟩⟩
def aah:Ext S_ 137 (XV (.int .u64)):=⟨⟨Tryz.f137,by kernel_rfl,by kernel_rfl,by kernel_rfl,by kernel_rfl,by kernel_rfl⟩⟩
def afR:S_.underlying 158=some (.pointer 147):=by kernel_rfl
def JK:S_.underlying 160=some .unsafePointer:=by kernel_rfl
def i182:(S_.info? 147).map (λi=>decide (i.size=0))=some false:=by kernel_rfl
noncomputable def asx:VR:={(default:VR)with fn:=184,defers:=[],mode:=.panicking [goexitEntry]}
noncomputable def ast (fn:UW)(tmps:SG)(todo:SZ):VR:={fn,tmps,todo,defers:=[],mode:=.returning,kind:=.deferred,roundOf:=none}
noncomputable def pW (Wg o:Nat):Uf:=.pointer (some ⟨Wg,o,none⟩)
section
variable (Wg:Nat)(tmps:SG)(todo:SZ)
noncomputable def d0:Tj:=G (Frame.enter S_ 98 #[pW Wg 0] .deferred) [ast 97 tmps todo,asx]
noncomputable def d14:Tj:=cK S_ false 14 (d0 Wg tmps todo)
noncomputable def d15:Tj:=fin (d14 Wg tmps todo) (pW Wg 0)
noncomputable def d16:Tj:=fin (d15 Wg tmps todo) (.tuple #[])
noncomputable def d19:Tj:=cK S_ false 3 (d16 Wg tmps todo)
noncomputable def d20:Tj:=fin (d19 Wg tmps todo) (.tuple #[])
noncomputable def d31:Tj:=cK S_ false 11 (d20 Wg tmps todo)
noncomputable def d32:Tj:=fin (d31 Wg tmps todo) (.bool false)
noncomputable def d54:Tj:=cK S_ false 22 (d32 Wg tmps todo)
noncomputable def d55 (s:Int):Tj:=fin (d54 Wg tmps todo) (.int .u64 s)
noncomputable def d158:Tj:=cK S_ false 103 (d55 Wg tmps todo 1)
noncomputable def d159:Tj:=fin (d158 Wg tmps todo) (.int .u64 1)
noncomputable def d179:Tj:=cK S_ false 20 (d159 Wg tmps todo)
noncomputable def d180:Tj:=fin (d179 Wg tmps todo) (.tuple #[])
noncomputable def Dr:Tj:=cK S_ false 27 (d180 Wg tmps todo)
noncomputable def AX:Tj:=fin (Dr Wg tmps todo) (.tuple #[])
set_option maxRecDepth 100000
variable (w:Uu)
def x0:(gr S_ false w 14 (d0 Wg tmps todo),pw S_ false 14 (d0 Wg tmps todo),bW (d14 Wg tmps todo),bW (d15 Wg tmps todo))=(gh S_ false w 14 (d0 Wg tmps todo),true,true,true):=by kernel_rfl
def x14:pN (d14 Wg tmps todo)=some (158,160,pW Wg 0):=by kernel_rfl
def x15:cF (d15 Wg tmps todo)=some (110,#[pW Wg 0]):=by kernel_rfl
def JY:(gr S_ false w 3 (d16 Wg tmps todo),jo S_ false 3 (d16 Wg tmps todo),bW (d19 Wg tmps todo),j7 S_ false 3 0 (d16 Wg tmps todo))=(gh S_ false w 3 (d16 Wg tmps todo),true,true,0):=by kernel_rfl
def x19:cF (d19 Wg tmps todo)=some (111,#[]):=by kernel_rfl
def J3:(gr S_ false w 11 (d20 Wg tmps todo),jo S_ false 11 (d20 Wg tmps todo),bW (d31 Wg tmps todo),j7 S_ false 11 1 (d20 Wg tmps todo))=(gh S_ false w 11 (d20 Wg tmps todo),true,true,1):=by kernel_rfl
def x31:cF (d31 Wg tmps todo)=some (113,#[]):=by kernel_rfl
def J5:(gr S_ false w 22 (d32 Wg tmps todo),jo S_ false 22 (d32 Wg tmps todo),bW (d54 Wg tmps todo),j7 S_ false 22 1 (d32 Wg tmps todo))=(gh S_ false w 22 (d32 Wg tmps todo),true,true,1):=by kernel_rfl
def x54:cF (d54 Wg tmps todo)=some (134,#[pW Wg 0,.int .u64 18446744069414584320]):=by kernel_rfl
def q30:(gr S_ false w 94 (d55 Wg tmps todo (3* 4294967296)),jo S_ false 94 (d55 Wg tmps todo (3* 4294967296)),(cK S_ false 94 (d55 Wg tmps todo (3* 4294967296))).status,j7 S_ false 94 1 (d55 Wg tmps todo (3* 4294967296)))=(gh S_ false w 94 (d55 Wg tmps todo (3* 4294967296)),true,.finished,0):=by kernel_rfl
def q31:(gr S_ false w 94 (d55 Wg tmps todo (3* 4294967296+1)),jo S_ false 94 (d55 Wg tmps todo (3* 4294967296+1)),(cK S_ false 94 (d55 Wg tmps todo (3* 4294967296+1))).status,j7 S_ false 94 1 (d55 Wg tmps todo (3* 4294967296+1)))=(gh S_ false w 94 (d55 Wg tmps todo (3* 4294967296+1)),true,.finished,0):=by kernel_rfl
def q20:(gr S_ false w 94 (d55 Wg tmps todo (2* 4294967296)),jo S_ false 94 (d55 Wg tmps todo (2* 4294967296)),(cK S_ false 94 (d55 Wg tmps todo (2* 4294967296))).status,j7 S_ false 94 1 (d55 Wg tmps todo (2* 4294967296)))=(gh S_ false w 94 (d55 Wg tmps todo (2* 4294967296)),true,.finished,0):=by kernel_rfl
def q21:(gr S_ false w 94 (d55 Wg tmps todo (2* 4294967296+1)),jo S_ false 94 (d55 Wg tmps todo (2* 4294967296+1)),(cK S_ false 94 (d55 Wg tmps todo (2* 4294967296+1))).status,j7 S_ false 94 1 (d55 Wg tmps todo (2* 4294967296+1)))=(gh S_ false w 94 (d55 Wg tmps todo (2* 4294967296+1)),true,.finished,0):=by kernel_rfl
def q10:(gr S_ false w 94 (d55 Wg tmps todo (1* 4294967296)),jo S_ false 94 (d55 Wg tmps todo (1* 4294967296)),(cK S_ false 94 (d55 Wg tmps todo (1* 4294967296))).status,j7 S_ false 94 1 (d55 Wg tmps todo (1* 4294967296)))=(gh S_ false w 94 (d55 Wg tmps todo (1* 4294967296)),true,.finished,0):=by kernel_rfl
def q11:(gr S_ false w 94 (d55 Wg tmps todo (1* 4294967296+1)),jo S_ false 94 (d55 Wg tmps todo (1* 4294967296+1)),(cK S_ false 94 (d55 Wg tmps todo (1* 4294967296+1))).status,j7 S_ false 94 1 (d55 Wg tmps todo (1* 4294967296+1)))=(gh S_ false w 94 (d55 Wg tmps todo (1* 4294967296+1)),true,.finished,0):=by kernel_rfl
def q00:(gr S_ false w 94 (d55 Wg tmps todo 0),jo S_ false 94 (d55 Wg tmps todo 0),(cK S_ false 94 (d55 Wg tmps todo 0)).status,j7 S_ false 94 1 (d55 Wg tmps todo 0))=(gh S_ false w 94 (d55 Wg tmps todo 0),true,.finished,0):=by kernel_rfl
def J6:(gr S_ false w 103 (d55 Wg tmps todo 1),jo S_ false 103 (d55 Wg tmps todo 1),bW (d158 Wg tmps todo),j7 S_ false 103 1 (d55 Wg tmps todo 1))=(gh S_ false w 103 (d55 Wg tmps todo 1),true,true,1):=by kernel_rfl
def avu:cF (d158 Wg tmps todo)=some (135,#[pW Wg 0]):=by kernel_rfl
def JX:(gr S_ false w 20 (d159 Wg tmps todo),jo S_ false 20 (d159 Wg tmps todo),bW (d179 Wg tmps todo),j7 S_ false 20 1 (d159 Wg tmps todo))=(gh S_ false w 20 (d159 Wg tmps todo),true,true,1):=by kernel_rfl
def avv:cF (d179 Wg tmps todo)=some (136,#[pW Wg 0,.int .u64 0]):=by kernel_rfl
def JZ:(gr S_ false w 27 (d180 Wg tmps todo),jo S_ false 27 (d180 Wg tmps todo),bW (Dr Wg tmps todo),j7 S_ false 27 1 (d180 Wg tmps todo))=(gh S_ false w 27 (d180 Wg tmps todo),true,true,1):=by kernel_rfl
def avw:cF (Dr Wg tmps todo)=some (122,#[pW Wg 1,.bool false,.int .i64 0]):=by kernel_rfl
def J4:(gr S_ false w 24 (AX Wg tmps todo),jo S_ false 24 (AX Wg tmps todo),(cK S_ false 24 (AX Wg tmps todo)).status,j7 S_ false 24 1 (AX Wg tmps todo))=(gh S_ false w 24 (AX Wg tmps todo),true,.finished,0):=by kernel_rfl
def xm:mayWake S_ (Dr Wg tmps todo)=true:=by kernel_rfl
end
section
variable (Wg:Nat)(tmps:SG)(todo:SZ)
def eD{α β γ δ:Type}{a a':α}{b b':β}{c c':γ}{d d':δ}(h:(a,b,c,d)=(a',b',c',d')):a=a'/\b=b'/\c=c'/\d=d':=by
 simpa[We]using h
def yM{s:Int}(h:∀w,(gr S_ false w 94 (d55 Wg tmps todo s),jo S_ false 94 (d55 Wg tmps todo s),(cK S_ false 94 (d55 Wg tmps todo s)).status,j7 S_ false 94 1 (d55 Wg tmps todo s))=(gh S_ false w 94 (d55 Wg tmps todo s),true,.finished,0)):∃q,Z8 S_ q 1 (d55 Wg tmps todo s):=
 Jr 94 1 _ (λw=>(eD (h w)).1) (eD (h default)).2.1 (PS (eD (h default)).2.2.1 (eD (h default)).2.2.2)
def ajh:Gd S_ Wg 1 (Dr Wg tmps todo):=by
 refine⟨rfl,bW.out (eD (JZ Wg tmps todo default)).2.2.1,xm Wg tmps todo,AX Wg tmps todo,λw hw=> ?_,?_⟩
 ·exact atJ (n:=0) (avw Wg tmps todo) ajr hw.st.2.1 hw.st.2.2.2
 ·exact Jr 24 1 _ (λw=>(eD (J4 Wg tmps todo w)).1) (eD (J4 Wg tmps todo default)).2.1 (PS (eD (J4 Wg tmps todo default)).2.2.1 (eD (J4 Wg tmps todo default)).2.2.2)
def aji:Ge S_ Wg 1 (d179 Wg tmps todo):=by
 refine⟨rfl,bW.out (eD (JX Wg tmps todo default)).2.2.1,d180 Wg tmps todo,λw hw=> ?_,?_⟩
 ·exact atL (avv Wg tmps todo) aju hw.st.1 hw.st.2.2.1
 ·refine yb 27 1 _ (λw=>(eD (JZ Wg tmps todo w)).1) (eD (JZ Wg tmps todo default)).2.1 ?_;rw[(eD (JZ Wg tmps todo default)).2.2.2];exact⟨0,ajh Wg tmps todo⟩
def ajg:Gc S_ Wg 1 (d158 Wg tmps todo):=by
 refine⟨rfl,bW.out (eD (J6 Wg tmps todo default)).2.2.1,d159 Wg tmps todo,λw hw=> ?_,?_⟩
 ·exact Qh (avu Wg tmps todo) Lg hw.st.1
 ·refine yb 20 1 _ (λw=>(eD (JX Wg tmps todo w)).1) (eD (JX Wg tmps todo default)).2.1 ?_;rw[(eD (JX Wg tmps todo default)).2.2.2];exact⟨0,aji Wg tmps todo⟩
def aje:CP S_ Wg 1 (d54 Wg tmps todo):=by
 refine⟨rfl,bW.out (eD (J5 Wg tmps todo default)).2.2.1,λv wt v_ hv=>⟨d55 Wg tmps todo ((v:Int)* KK+wt),λw hw=> ?_,λh=> ?_,λh=> ?_⟩⟩
 ·have e:UE.wrap ((((v+1:Nat):Int)* KK+wt)+18446744069414584320)=(v:Int)* KK+wt:=by
   have h1:UE.bits=64:=rfl;have h2:UE.signed=false:=rfl;unfold Yf KK;rw[h1,h2];simp;omega
  have:=ae2 (P:=S_) (main:=false) (w:=w) (x54 Wg tmps todo) aag hw.st.1 hw.st.2.2.1;rw[e]at this;exact this
 ·obtain⟨rfl,rfl⟩:=h;refine yb 103 1 _ (λw=>(eD (J6 Wg tmps todo w)).1) (eD (J6 Wg tmps todo default)).2.1 ?_;have e:=(eD (J6 Wg tmps todo default)).2.2.2;exact⟨0,by rw[show (((0:Nat):Int)* KK+((1:Nat):Int))=1 from rfl,e];exact ajg Wg tmps todo⟩
 ·have hv4:v=0\/v=1\/v=2\/v=3:=by omega
  have c_:wt=0\/wt=1:=by omega
  rcases hv4 with rfl|rfl|rfl|rfl<;>rcases c_ with rfl|rfl
  ·exact yM Wg tmps todo (q00 Wg tmps todo)
  ·exact absurd ⟨rfl,rfl⟩ h
  ·exact yM Wg tmps todo (q10 Wg tmps todo)
  ·exact yM Wg tmps todo (q11 Wg tmps todo)
  ·exact yM Wg tmps todo (q20 Wg tmps todo)
  ·exact yM Wg tmps todo (q21 Wg tmps todo)
  ·exact yM Wg tmps todo (q30 Wg tmps todo)
  ·exact yM Wg tmps todo (q31 Wg tmps todo)
def ajf:Gl S_ Wg (d15 Wg tmps todo):=by
 refine⟨bW.out (eD (x0 Wg tmps todo default)).2.2.2,d16 Wg tmps todo,λw=>JD .releaseMerge (λ_ _ h=>by cases h) (x15 Wg tmps todo) ajo,?_⟩;refine yb 3 0 _ (λw=>(eD (JY Wg tmps todo w)).1) (eD (JY Wg tmps todo default)).2.1 ?_;rw[(eD (JY Wg tmps todo default)).2.2.2];refine Qd (g:=d19 Wg tmps todo) (g':=d20 Wg tmps todo) (bW.out (eD (JY Wg tmps todo default)).2.2.1) (O8 (.inl rfl)) (λw=>JC (λ_ h=>by cases h) (x19 Wg tmps todo) Lf) ?_;refine yb 11 1 (d20 Wg tmps todo) (λw=>(eD (J3 Wg tmps todo w)).1) (eD (J3 Wg tmps todo default)).2.1 ?_;rw[(eD (J3 Wg tmps todo default)).2.2.2];refine Qd (es:=#[]) (g:=d31 Wg tmps todo) (g':=d32 Wg tmps todo) (bW.out (eD (J3 Wg tmps todo default)).2.2.1) (by simp) (λw=>ae3 (x31 Wg tmps todo) aae) ?_;refine yb 22 1 (d32 Wg tmps todo) (λw=>(eD (J5 Wg tmps todo w)).1) (eD (J5 Wg tmps todo default)).2.1 ?_;rw[(eD (J5 Wg tmps todo default)).2.2.2];exact⟨0,aje Wg tmps todo⟩
def ajj{J:SM}(C:Av S_ false J){V:View}{c:Nat}(hr:V.role=.work c Wg [])(hd:V.deaf=0):J V (d0 Wg tmps todo):=by
 have C':Closed false S_ false J:={C with more:=λh=>by cases h};have hx:=eD (x0 Wg tmps todo default);refine uC C' 14 _ (λw=>(eD (x0 Wg tmps todo w)).1) hx.2.1 ?_;refine C.slip V _ (d15 Wg tmps todo) c Wg hr (bW.out hx.2.2.1) (λw st hw hW=> ?_) (C.done V _ c Wg hr hd (ajf Wg tmps todo));exact JE (x14 Wg tmps todo) afR JK i182 hW.st.1
end
section
variable (Wg:Nat)(cs:SX)(main:Bool)
noncomputable def a0:Tj:=G (Frame.enter S_ 96 #[pW Wg 0,.int .i64 1] .normal) cs
noncomputable def Gw:Tj:=cK S_ main 12 (a0 Wg cs)
noncomputable def C9:Tj:=fin (Gw Wg cs main) (.tuple #[])
noncomputable def Gx:Tj:=cK S_ main 11 (C9 Wg cs main)
noncomputable def Da:Tj:=fin (Gx Wg cs main) (.bool false)
noncomputable def Gy:Tj:=cK S_ main 22 (Da Wg cs main)
noncomputable def nM (s:Int):Tj:=fin (Gy Wg cs main) (.int .u64 s)
noncomputable def nL (s:Int):Tj:=cK S_ main 87 (nM Wg cs main s)
noncomputable def Ks:Tj:=cK S_ main 52 (nM Wg cs main 4294967296)
noncomputable def C7:Tj:=fin (Ks Wg cs main) (pW Wg 1)
noncomputable def C8:Tj:=fin (C7 Wg cs main) (.tuple #[])
noncomputable def C_:Tj:=cK S_ main 39 (C8 Wg cs main)
set_option maxRecDepth 100000
variable (w:Uu)
def y0:(gr S_ main w 12 (a0 Wg cs),pw S_ main 12 (a0 Wg cs),bW (Gw Wg cs main),cF (Gw Wg cs main))=(gh S_ main w 12 (a0 Wg cs),true,true,some (111,#[])):=by kernel_rfl
def y13:(gr S_ main w 11 (C9 Wg cs main),pw S_ main 11 (C9 Wg cs main),bW (Gx Wg cs main),cF (Gx Wg cs main))=(gh S_ main w 11 (C9 Wg cs main),true,true,some (113,#[])):=by kernel_rfl
def y25:(gr S_ main w 22 (Da Wg cs main),pw S_ main 22 (Da Wg cs main),bW (Gy Wg cs main),cF (Gy Wg cs main))=(gh S_ main w 22 (Da Wg cs main),true,true,some (134,#[pW Wg 0,.int .u64 4294967296])):=by kernel_rfl
noncomputable def zU (g:Tj):aq_×Wo×Nat×Yh×List Yd×Bool:=(.go (gW S_ main g) w #[⟨.mark .enable,false,true⟩],(gW S_ main g).frame.mode,(gW S_ main g).frame.fn,(gW S_ main g).frame.kind,(gW S_ main g).frame.defers,bW (gW S_ main g))
def QO:(gr S_ main w 87 (nM Wg cs main (2* 4294967296)),pw S_ main 87 (nM Wg cs main (2* 4294967296)),bW (nL Wg cs main (2* 4294967296)),zU main w (nL Wg cs main (2* 4294967296)))=(gh S_ main w 87 (nM Wg cs main (2* 4294967296)),true,true,stepG S_ main (nL Wg cs main (2* 4294967296)) w,.returning,96,.normal,[],true):=by kernel_rfl
def QP:(gr S_ main w 87 (nM Wg cs main (3* 4294967296)),pw S_ main 87 (nM Wg cs main (3* 4294967296)),bW (nL Wg cs main (3* 4294967296)),zU main w (nL Wg cs main (3* 4294967296)))=(gh S_ main w 87 (nM Wg cs main (3* 4294967296)),true,true,stepG S_ main (nL Wg cs main (3* 4294967296)) w,.returning,96,.normal,[],true):=by kernel_rfl
def QQ:(gr S_ main w 87 (nM Wg cs main (4* 4294967296)),pw S_ main 87 (nM Wg cs main (4* 4294967296)),bW (nL Wg cs main (4* 4294967296)),zU main w (nL Wg cs main (4* 4294967296)))=(gh S_ main w 87 (nM Wg cs main (4* 4294967296)),true,true,stepG S_ main (nL Wg cs main (4* 4294967296)) w,.returning,96,.normal,[],true):=by kernel_rfl
def af9:(gr S_ main w 52 (nM Wg cs main 4294967296),pw S_ main 52 (nM Wg cs main 4294967296),bW (Ks Wg cs main),pN (Ks Wg cs main))=(gh S_ main w 52 (nM Wg cs main 4294967296),true,true,some (165,160,pW Wg 1)):=by kernel_rfl
def avx:cF (C7 Wg cs main)=some (118,#[pW Wg 1]):=by kernel_rfl
def QN:(gr S_ main w 39 (C8 Wg cs main),pw S_ main 39 (C8 Wg cs main),bW (C_ Wg cs main),zU main w (C_ Wg cs main))=(gh S_ main w 39 (C8 Wg cs main),true,true,stepG S_ main (C_ Wg cs main) w,.returning,96,.normal,[],true):=by kernel_rfl
def yr1:bW (C7 Wg cs main)=true:=by kernel_rfl
def JL:∃t,S_.underlying 165=some (.pointer t)/\(S_.info? t).map (λi=>decide (i.size=0))=some false:=⟨145,by kernel_rfl,by kernel_rfl⟩
def ako:∃fn,S_.funcs[96]?=some fn/\fn.results=#[]:=⟨Tryz.f96,by kernel_rfl,by kernel_rfl⟩
end
section
variable {P:Tl}{V:View}
def atW{w:Uu}{b o:Nat}{v:Uf}{c:SG}{el:TypeId}(hw:Sat V w)(ho:V.own b=some (.cells c el (0,0)))(cI:V.ai b o=none)(M3:V.role.chan≠some b):
  du V w (V.upd b (.cells (c.setIfInBounds o v) el (0,0))) (w.setCell ⟨b,o,none⟩ v) #[⟨.cell ⟨b,o,none⟩,false,true⟩,⟨.cell ⟨b,o,none⟩,true,true⟩]:=by
 refine⟨hw.afV ho cI,rfl,rfl,rfl,by rw[FV];exact Ts _,λb' dO e=>xz _ _ _ (λx=> ?_),λb' dO e=> ?_,λ_ _ _ e=>e,λ_ _ _ e=> .inl e,λev cq=> ?_,by simp[deafBehind];rfl,rfl,λc' x bw e=>by rw[<- e];simp only[View.upd,ite_eq_right_iff];intro x';subst x';exact absurd bw M3,λev cq=> ?_⟩
 ·have x':b=b':=x;subst x';rw[ho]at e;cases e
 ·have:b'≠b:=by intro x;subst x;rw[ho]at e;cases e
  simp only[View.upd,this,if_false];exact e
 ·simp only[UR,Tm,T7,or_false]at cq;rcases cq with rfl|rfl
  ·exact⟨.inr (.inl (by show V.own b≠none;rw[ho];simp)),.inl rfl⟩
  ·exact⟨.inr ⟨by show V.own b≠none;rw[ho];simp,cI⟩,.inl rfl⟩
 ·simp only[UR,Tm,T7,or_false]at cq;rcases cq with rfl|rfl<;>(show b<_;rw[FV];exact hw.lt ho)
def Closed.said{lv main:Bool}{J:SM}(C:Closed lv P main J){g g':Tj}{a:WC}(hr:g.status=.running)(ha:V.own a.block≠none/\V.ai a.block a.off=none)(h:∀w,stepG P main g w=.go g' w #[⟨.mark (.read a),false,true⟩]) (hJ:J V g'):J V g:=by
 refine C.step _ _ hr λw hw=> ?_;have hs:=atd (P:=P) (V:=V) (k:=(.pure ():Sem Unit)) (K:=λ_ V'=>V'=V) (Kp:=λ_ _=>False) (m:=.read a) (.inl rfl) ha (cN rfl);obtain⟨es,w',V',k1,k2,k3⟩:=hs.runs hw;rcases k3 with⟨x,k3,rfl⟩|⟨_,_,hx⟩
 ·have e1:Zh () w=Zh x w':=k3;have e2:es=#[⟨.mark (.read a),false,true⟩]:=k2.symm;cases e1;subst e2;refine⟨g',w,_,_,h w,?_,hJ⟩;rwa[uJ (by simp)]at k1
 ·exact hx.elim
end
section
variable (Wg:Nat)(cs:SX)(main:Bool)
set_option maxRecDepth 100000
def yG2:gW S_ main (nL Wg cs main (2* 4294967296))=G (gW S_ main (nL Wg cs main (2* 4294967296))).frame cs:=by kernel_rfl
def yG3:gW S_ main (nL Wg cs main (3* 4294967296))=G (gW S_ main (nL Wg cs main (3* 4294967296))).frame cs:=by kernel_rfl
def yG4:gW S_ main (nL Wg cs main (4* 4294967296))=G (gW S_ main (nL Wg cs main (4* 4294967296))).frame cs:=by kernel_rfl
def yG1:gW S_ main (C_ Wg cs main)=G (gW S_ main (C_ Wg cs main)).frame cs:=by kernel_rfl
end
def lh{α β γ δ:Type}{a a':α}{b b':β}{c c':γ}{d d':δ}(h:(a,b,c,d)=(a',b',c',d')):a=a'/\b=b'/\c=c'/\d=d':=by
 simpa[We]using h
section
variable {lv main:Bool}{J:SM}{V:View}{cs:SX}
def GB(C:Closed lv S_ main J){g:Tj}{U:View}(bQ:bW g=true)(h:∀w,(Go.Gg.zU main w g)=(stepG S_ main g w,.returning,96,.normal,[],true))(hG:gW S_ main g=G (gW S_ main g).frame cs)
  (hU:U={V with deaf:=deafBehind V.deaf #[⟨.mark .enable,false,true⟩]}) (hJ:∀fr,Leaves S_ fr 96 .normal (.ret (.tuple #[])) U->J U (G fr cs)):J V g:=by
 refine C.mute (.inr rfl) (bW.out bQ) (λw=> ?_) (g':=gW S_ main g) ?_
 ·have:=h w;simp only[Go.Gg.zU,We]at this;exact this.1.symm
 ·have:=h default;simp only[Go.Gg.zU,We]at this;obtain⟨_,h1,h2,h3,h4,_⟩:=this;rw[hG,<- hU];refine hJ _ ⟨h2,h4,h3,?_⟩;obtain⟨fn,hf,hr⟩:=ako;exact⟨fn,hf,h1,results_none hr⟩
def ahf{n Wg:Nat}{sm:TypeId}(hn:n<4)(hW:V.own Wg=some (.cells #[.int .u64 ((n:Int)* KK),.int .u32 0] sm (0,0))) (hi:∀o,V.ai Wg o=none) (hc:V.role.chan≠some Wg) (hd:V.deaf=0):
  Body lv S_ 96 #[pW Wg 0,.int .i64 1] .normal V (λo V'=>o=.ret (.tuple #[])/\V'=V.upd Wg (.cells #[.int .u64 (((n+1:Nat):Int)* KK),.int .u32 0] sm (0,0))):=by
 intro main J C cs hJ;have hA:=lh (y0 Wg cs main default);show J V (a0 Wg cs);refine uC C 12 _ (λw=>(lh (y0 Wg cs main w)).1) hA.2.1 ?_;refine C.mute (g:=Gw Wg cs main) (g':=C9 Wg cs main) (.inl rfl) (bW.out hA.2.2.1) (λw=>JC (λ_ h=>by cases h) hA.2.2.2 Lf) ?_;have hB:=lh (y13 Wg cs main default);refine uC C 11 _ (λw=>(lh (y13 Wg cs main w)).1) hB.2.1 ?_;refine C.idle (g:=Gx Wg cs main) (g':=Da Wg cs main) (bW.out hB.2.2.1) (λw=>ae3 hB.2.2.2 aae) ?_;have hC:=lh (y25 Wg cs main default);refine uC C 22 _ (λw=>(lh (y25 Wg cs main w)).1) hC.2.1 ?_;let V1:View:={V with deaf:=deafBehind V.deaf #[⟨.mark .disable,false,true⟩]};let V2:View:=V1.upd Wg (.cells #[.int .u64 (((n+1:Nat):Int)* KK),.int .u32 0] sm (0,0));have Bg:{V2 with deaf:=deafBehind V2.deaf #[⟨.mark .enable,false,true⟩]}=V.upd Wg (.cells #[.int .u64 (((n+1:Nat):Int)* KK),.int .u32 0] sm (0,0)):=by
  obtain⟨i,o,d,r⟩:=V;have:d=0:=hd;subst this;rfl
 show J V1 (Gy Wg cs main);refine C.step _ _ (bW.out hC.2.2.1) λw hw=> ?_;have hh:=hw.own Wg _ hW;have dE:w.cell? ⟨Wg,0,none⟩=some (.int .u64 ((n:Int)* KK)):=by simp[VC,hh]
 have IA:w.frozen? ⟨Wg,0,none⟩=false:=by simp[aw4,hh]
 have hs:=ae2 (P:=S_) (main:=main) (w:=w) hC.2.2.2 aag dE IA;have e:UE.wrap (((n:Int)* KK)+4294967296)=((n+1:Nat):Int)* KK:=by
  have h1:UE.bits=64:=rfl;have h2:UE.signed=false:=rfl;unfold Yf KK;rw[h1,h2];simp;omega
 rw[e]at hs;refine⟨nM Wg cs main (((n+1:Nat):Int)* KK),_,_,V2,hs,?_,?_⟩
 ·exact atW (V:=V1) hw hW (hi 0) hc
 have hn4:n=0\/n=1\/n=2\/n=3:=by omega
 rcases hn4 with rfl|rfl|rfl|rfl
 ·have hD:=lh (af9 Wg cs main default);refine uC C 52 _ (λw=>(lh (af9 Wg cs main w)).1) hD.2.1 ?_;obtain⟨t,NY,zD⟩:=JL;have hW2:V2.own Wg=some (.cells #[.int .u64 (((0+1:Nat):Int)* KK),.int .u32 0] sm (0,0)):=by simp[V2,View.upd]
  refine C.step _ _ (bW.out hD.2.2.1) λw hw=>⟨C7 Wg cs main,w,#[],V2,?_,.idle hw,?_⟩
  ·have hh:=hw.own Wg _ hW2;exact JE hD.2.2.2 NY JK zD (v:=.int .u32 0) (by simp[VC,hh])
  refine C.said (g:=C7 Wg cs main) (g':=C8 Wg cs main) (a:=⟨Wg,1,none⟩) (bW.out (yr1 Wg cs main)) ⟨by show V2.own Wg≠none;rw[hW2];simp,hi 1⟩ (λw=>JD .read (λ_ _ h=>by cases h) (avx Wg cs main) ajq) ?_;have hE:=lh (QN Wg cs main default);refine uC C 39 _ (λw=>(lh (QN Wg cs main w)).1) hE.2.1 ?_;exact GB C hE.2.2.1 (λw=>(lh (QN Wg cs main w)).2.2.2) (yG1 Wg cs main) Bg.symm λfr hl=>hJ _ _ fr ⟨rfl,rfl⟩ hl
 ·have hE:=lh (QO Wg cs main default);refine uC C 87 _ (λw=>(lh (QO Wg cs main w)).1) hE.2.1 ?_;exact GB C hE.2.2.1 (λw=>(lh (QO Wg cs main w)).2.2.2) (yG2 Wg cs main) Bg.symm λfr hl=>hJ _ _ fr ⟨rfl,rfl⟩ hl
 ·have hE:=lh (QP Wg cs main default);refine uC C 87 _ (λw=>(lh (QP Wg cs main w)).1) hE.2.1 ?_;exact GB C hE.2.2.1 (λw=>(lh (QP Wg cs main w)).2.2.2) (yG3 Wg cs main) Bg.symm λfr hl=>hJ _ _ fr ⟨rfl,rfl⟩ hl
 ·have hE:=lh (QQ Wg cs main default);refine uC C 87 _ (λw=>(lh (QQ Wg cs main w)).1) hE.2.1 ?_;exact GB C hE.2.2.1 (λw=>(lh (QQ Wg cs main w)).2.2.2) (yG4 Wg cs main) Bg.symm λfr hl=>hJ _ _ fr ⟨rfl,rfl⟩ hl
end
section
variable {P:Tl}{main:Bool}{g:Tj}{w:Uu}
def ws (g:Tj):Option (TypeId×Uf):=match ready g with
 |some {op:=.load t x, .. }=>some (t,g.frame.eval x)
 |_=>none
def atG{t:TypeId}{d:TypeDesc}{ad:WC}{v:Uf}(h:ws g=some (t,.pointer (some ad)))(ht:P.underlying t=some d)(hd:TypeDesc.agg d=false)(hq:(P.funcs[g.frame.fn]?).any (·.norace)=false)(hc:w.cell? ad=some v):
  stepG P main g w=.go (fin g v) w #[⟨.cell ad,false,false⟩]:=by
 obtain⟨o,x,h1,h2,h3⟩:∃o x,ready g=some o/\o.op=.load t x/\g.frame.eval x=.pointer (some ad):=by
  unfold ws at h;split at h
  ·rename_i s x _ _ _ _ ho;simp only[Us,We]at h;obtain⟨rfl,h⟩:=h;exact⟨_,x,ho,rfl,h⟩
  ·cases h
 obtain⟨b,a,ops,i,rest,kk,cs,e,q1,q2,q3,q4,q5,q6,_⟩:=ready.out h1;rw[<- q4]at h3;rw[<- q5];refine W1 (congrArg (λx=>stepG P main x w) e) ?_;have e1:execOp a.eval o=(do let v<- YB t (.pointer (some ad));pure (.value v)):=by
  unfold execOp;simp only[h2,h3]
 have e2:(isAgg t:Sem Bool).run P w=.ok false w/\∀es,(isAgg t:Sem Bool).events P w es=es:=by
  unfold isAgg Go.underlying;cases d<;>first
   |(exact(Bool.noConfusion hd))
   |(constructor<;>simp[go_sem,ht])
 have hr:(execOp a.eval o).run P w=.ok (.value v) w:=by
  rw[e1];simp[YB,Wq,loadVar,e2.1,hc]
 have cq:(execOp a.eval o).events P w #[]=#[⟨.cell ad,false,false⟩]:=by
  rw[e1];simp[YB,Wq,loadVar,e2.1,e2.2,hc]
 rw[aya q1 q2 q3 hr];unfold listed;rw[cq,seen_eq (by rw[q6];exact hq) (by intro e he f;simp only[UR,Tm,T7,or_false]at he;rw[he];simp)]
def yK (g:Tj):Option Uf:=match ready g with
 |some {op:=.call {callee:=.builtin .close,args, .. }, .. }=>match args.toList with
  |[x]=>some (g.frame.eval x)
  |_=>none
 |_=>none
def atF{c cap s r:Nat}{GV:SG}{tm:Bool}(h:yK g=some (.chan (some c)))(hq:(P.funcs[g.frame.fn]?).any (·.norace)=false)(hc:w.heap[c]?=some (.chan cap GV false s r tm)):
  stepG P main g w=.go (fin g (.tuple #[])) {w with heap:=w.heap.setIfInBounds c (.chan cap GV true s r tm)} #[⟨.obj c,false,true⟩,⟨.obj c,true,true⟩]:=by
 obtain⟨o,x,mz,h1,h2,h3⟩:∃o x mz,ready g=some o/\o.op=.call {callee:=.builtin .close,args:=#[x],argTypes:=mz}/\g.frame.eval x=.chan (some c):=by
  unfold yK at h;split at h
  ·rename_i dst xs mz ty pos af gd ho;split at h
   ·rename_i x hx;have:xs=#[x]:=(by apply WT;simpa using hx);subst this;exact⟨_,x,_,ho,rfl,by simpa using h⟩
   ·cases h
  ·cases h
 obtain⟨b,a,ops,i,rest,kk,cs,e,q1,q2,q3,q4,q5,q6,_⟩:=ready.out h1;rw[<- q4]at h3;rw[<- q5];refine W1 (congrArg (λx=>stepG P main x w) e) ?_;exact stepG_close q1 q2 q3 h2 h3 hc (by rw[q6];exact hq)
end
section
variable (Wg fc c:Nat)
noncomputable def e0:Tj:=born S_ ⟨.fn (.func 100) #[pW Wg 0,pW fc 0],#[]⟩
noncomputable def e7:Tj:=cK S_ false 7 (e0 Wg fc)
noncomputable def e8:Tj:=fin (e7 Wg fc) (.tuple #[])
noncomputable def e27:Tj:=cK S_ false 19 (e8 Wg fc)
noncomputable def f76 (h:Tj)(v:Int):Tj:=cK S_ false 48 (fin h (.int .u64 v))
noncomputable def O3 (b:Tj):Tj:=cK S_ false 25 (fin b (.bool false))
noncomputable def f96 (b:Tj):Tj:=cK S_ false 19 (fin b (.bool true))
noncomputable def f97 (b:Tj):Tj:=fin (f96 b) (pW Wg 1)
noncomputable def f121 (b:Tj):Tj:=cK S_ false 23 (fin (f97 Wg b) (.tuple #[]))
noncomputable def f138 (b:Tj):Tj:=cK S_ false 16 (fin (f121 Wg b) (.tuple #[]))
noncomputable def f150 (b:Tj):Tj:=cK S_ false 11 (fin (f138 Wg b) (.int .u64 0))
noncomputable def f154 (b:Tj):Tj:=cK S_ false 3 (fin (f150 Wg b) (.tuple #[]))
noncomputable def f155 (b:Tj):Tj:=fin (f154 Wg b) (pW Wg 0)
noncomputable def f168 (b:Tj):Tj:=cK S_ false 12 (fin (f155 Wg b) (.tuple #[]))
noncomputable def f169 (b:Tj):Tj:=fin (f168 Wg b) (.chan (some c))
noncomputable def f170 (b:Tj):Tj:=fin (f169 Wg c b) (.tuple #[])
noncomputable def Au (h:Tj):Tj:=cK S_ false 31 (fin h (.int .u64 0))
noncomputable def QR (h:Tj):Tj:=cK S_ false 3 (fin (Au h) (.tuple #[]))
noncomputable def wJ (h:Tj):Tj:=fin (QR h) (pW Wg 0)
noncomputable def F_ (h:Tj):Tj:=cK S_ false 22 (fin (wJ Wg h) (.tuple #[]))
noncomputable def wK (h:Tj):Tj:=fin (F_ Wg h) (.chan (some c))
noncomputable def J8 (h:Tj):Tj:=fin (wK Wg c h) (.tuple #[])
noncomputable def hd:SD->Tj
 |[]=>e27 Wg fc
 |v::l=>O3 (f76 (hd l) v)
noncomputable def bd (l:SD)(v:Int):Tj:=f76 (hd Wg fc l) v
noncomputable def fP (w:Uu)(n d:Nat)(g:Tj):List aq_×Bool×Bool×Nat:=(gr S_ false w n g,jo S_ false n g,bW (cK S_ false n g),j7 S_ false n d g)
noncomputable def fO (w:Uu)(n d:Nat)(g:Tj):List aq_×Bool×Bool×Nat:=(gh S_ false w n g,true,true,d)
noncomputable def A1 (w:Uu)(n:Nat)(g:Tj):List aq_×Bool×GoStatus×Nat:=(gr S_ false w n g,jo S_ false n g,(cK S_ false n g).status,j7 S_ false n 0 g)
noncomputable def A0 (w:Uu)(n:Nat)(g:Tj):List aq_×Bool×GoStatus×Nat:=(gh S_ false w n g,true,.finished,0)
noncomputable def rz (g:Tj):Bool:= !(S_.funcs[g.frame.fn]?).any (·.norace)
noncomputable def zT (w:Uu)(h:Tj):=(cF h,bW h,fP w 31 1 (fin h (.int .u64 0)),cF (Au h),fP w 3 0 (fin (Au h) (.tuple #[])),pN (QR h),cF (wJ Wg h),bW (wJ Wg h),fP w 22 0 (fin (wJ Wg h) (.tuple #[])),ws (F_ Wg h),rz (F_ Wg h),yK (wK Wg c h),rz (wK Wg c h),bW (wK Wg c h),mayWake S_ (wK Wg c h),A1 w 4 (J8 Wg c h))
noncomputable def zR (w:Uu)(h:Tj):=(some ((135:UW),#[pW Wg 0]),true,fO w 31 1 (fin h (.int .u64 0)),some ((112:UW),(#[]:SG)),fO w 3 0 (fin (Au h) (.tuple #[])),some ((158:TypeId),(160:TypeId),pW Wg 0),some ((123:UW),#[pW Wg 0]),true,fO w 22 0 (fin (wJ Wg h) (.tuple #[])),some ((139:TypeId),pW fc 0),true,some (YQ (some c)),true,true,true,A0 w 4 (J8 Wg c h))
noncomputable def fT (w:Uu)(b:Tj):=(cF b,bW b,fP w 25 1 (fin b (.bool false)),fP w 19 1 (fin b (.bool true)),pN (f96 b),cF (f97 Wg b),bW (f97 Wg b),fP w 23 1 (fin (f97 Wg b) (.tuple #[])),cF (f121 Wg b),(f121 Wg b).offers,fP w 16 1 (fin (f121 Wg b) (.tuple #[])),cF (f138 Wg b),fP w 11 1 (fin (f138 Wg b) (.int .u64 0)),cF (f150 Wg b),fP w 3 0 (fin (f150 Wg b) (.tuple #[])),pN (f154 Wg b),cF (f155 Wg b),bW (f155 Wg b),fP w 12 0 (fin (f155 Wg b) (.tuple #[])),ws (f168 Wg b),rz (f168 Wg b),yK (f169 Wg c b),rz (f169 Wg c b),bW (f169 Wg c b),mayWake S_ (f169 Wg c b),A1 w 4 (f170 Wg c b))
noncomputable def fR (w:Uu)(b:Tj)(v:Int):=(some ((137:UW),#[pW Wg 0,.int .u64 v,.int .u64 (v+1)]),true,fO w 25 1 (fin b (.bool false)),fO w 19 1 (fin b (.bool true)),some ((165:TypeId),(160:TypeId),pW Wg 1),some ((126:UW),#[pW Wg 1]),true,fO w 23 1 (fin (f97 Wg b) (.tuple #[])),some ((127:UW),#[pW Wg 1,.bool false]),(none:Option (Array CommCase×CommShape)),fO w 16 1 (fin (f121 Wg b) (.tuple #[])),some ((135:UW),#[pW Wg 0]),fO w 11 1 (fin (f138 Wg b) (.int .u64 0)),some ((112:UW),(#[]:SG)),fO w 3 0 (fin (f150 Wg b) (.tuple #[])),some ((158:TypeId),(160:TypeId),pW Wg 0),some ((123:UW),#[pW Wg 0]),true,fO w 12 0 (fin (f155 Wg b) (.tuple #[])),some ((139:TypeId),pW fc 0),true,some (YQ (some c)),true,true,true,A0 w 4 (f170 Wg c b))
set_option maxRecDepth 100000
def c0(w:Uu):(fP w 7 0 (e0 Wg fc),cF (e7 Wg fc),fP w 19 1 (e8 Wg fc))=(fO w 7 0 (e0 Wg fc),some ((111:UW),(#[]:SG)),fO w 19 1 (e8 Wg fc)):=by kernel_rfl
noncomputable def pT (w:Uu)(l:SD)(v:Int):=(fP w 48 1 (fin (hd Wg fc l) (.int .u64 v)),fT Wg c w (bd Wg fc l v),zT Wg c w (hd Wg fc (v::l)))
noncomputable def pR (w:Uu)(l:SD)(v:Int):=(fO w 48 1 (fin (hd Wg fc l) (.int .u64 v)),fR Wg fc c w (bd Wg fc l v) v,zR Wg fc c w (hd Wg fc (v::l)))
def zz(w:Uu):zT Wg c w (hd Wg fc [])=zR Wg fc c w (hd Wg fc []):=by kernel_rfl
def PN(w:Uu):pT Wg fc c w [] (4* 4294967296)=pR Wg fc c w [] (4* 4294967296):=by kernel_rfl
def PM(w:Uu):pT Wg fc c w [4* 4294967296] (3* 4294967296)=pR Wg fc c w [4* 4294967296] (3* 4294967296):=by kernel_rfl
def PJ(w:Uu):pT Wg fc c w [3* 4294967296,4* 4294967296] (2* 4294967296)=pR Wg fc c w [3* 4294967296,4* 4294967296] (2* 4294967296):=by kernel_rfl
def PB(w:Uu):pT Wg fc c w [2* 4294967296,3* 4294967296,4* 4294967296] (1* 4294967296)=pR Wg fc c w [2* 4294967296,3* 4294967296,4* 4294967296] (1* 4294967296):=by kernel_rfl
def PF(w:Uu):pT Wg fc c w [3* 4294967296,4* 4294967296] (1* 4294967296)=pR Wg fc c w [3* 4294967296,4* 4294967296] (1* 4294967296):=by kernel_rfl
def PK(w:Uu):pT Wg fc c w [4* 4294967296] (2* 4294967296)=pR Wg fc c w [4* 4294967296] (2* 4294967296):=by kernel_rfl
def PC(w:Uu):pT Wg fc c w [2* 4294967296,4* 4294967296] (1* 4294967296)=pR Wg fc c w [2* 4294967296,4* 4294967296] (1* 4294967296):=by kernel_rfl
def PG(w:Uu):pT Wg fc c w [4* 4294967296] (1* 4294967296)=pR Wg fc c w [4* 4294967296] (1* 4294967296):=by kernel_rfl
def PL(w:Uu):pT Wg fc c w [] (3* 4294967296)=pR Wg fc c w [] (3* 4294967296):=by kernel_rfl
def PI(w:Uu):pT Wg fc c w [3* 4294967296] (2* 4294967296)=pR Wg fc c w [3* 4294967296] (2* 4294967296):=by kernel_rfl
def Pz(w:Uu):pT Wg fc c w [2* 4294967296,3* 4294967296] (1* 4294967296)=pR Wg fc c w [2* 4294967296,3* 4294967296] (1* 4294967296):=by kernel_rfl
def PE(w:Uu):pT Wg fc c w [3* 4294967296] (1* 4294967296)=pR Wg fc c w [3* 4294967296] (1* 4294967296):=by kernel_rfl
def PH(w:Uu):pT Wg fc c w [] (2* 4294967296)=pR Wg fc c w [] (2* 4294967296):=by kernel_rfl
def Py(w:Uu):pT Wg fc c w [2* 4294967296] (1* 4294967296)=pR Wg fc c w [2* 4294967296] (1* 4294967296):=by kernel_rfl
def Px(w:Uu):pT Wg fc c w [] (1* 4294967296)=pR Wg fc c w [] (1* 4294967296):=by kernel_rfl
end
section
variable {P:Tl}{Wg:Nat}{Stop:S0}
def aak{n d d':Nat}{g:Tj}(h:∀w,fP w n d g=fO w n d' g):(∀w,gr S_ false w n g=gh S_ false w n g)/\jo S_ false n g=true/\bW (cK S_ false n g)=true/\j7 S_ false n d g=d':=
 ⟨λw=>(eD (h w)).1,(eD (h default)).2.1,(eD (h default)).2.2.1,(eD (h default)).2.2.2⟩
def yP{n d d':Nat}{g:Tj}(h:∀w,fP w n d g=fO w n d' g)(hs:∃m,cY S_ Stop m d' (cK S_ false n g)):∃m,cY S_ Stop m d g:=by
 obtain⟨h1,h2,_,h4⟩:=aak h;exact yb n d g h1 h2 (by rw[h4];exact hs)
def Ls{n d d':Nat}{g:Tj}(h:∀w,fP w n d g=fO w n d' g)(hs:∃m,iJ S_ Wg Stop m d' (cK S_ false n g)):∃m,iJ S_ Wg Stop m d g:=by
 obtain⟨h1,h2,_,h4⟩:=aak h;exact aeY n d g h1 h2 (by rw[h4];exact hs)
def ajP{n:Nat}{g:Tj}(h:∀w,A1 w n g=A0 w n g):∃q,Z8 S_ q 0 g:=
 Jr n 0 g (λw=>(eD (h w)).1) (eD (h default)).2.1 (PS (eD (h default)).2.2.1 (eD (h default)).2.2.2)
def atq{d:Nat}{g g':Tj}{es:SP}(hr:g.status=.running)(hm:∀e∈es,XG e=true)(h:∀w,stepG P false g w=.go g' w es)(hs:∃m,iJ P Wg Stop m (deafBehind d es) g'):∃m,iJ P Wg Stop m d g:=by
 obtain⟨m,gD⟩:=hs;exact⟨m+1,.inr ⟨hr,g',es,hm,λw _ _ _=>h w,gD⟩⟩
end
set_option maxRecDepth 100000
def t173:(S_.underlying 139).map TypeDesc.agg=some false:=by kernel_rfl
def PT{g:Tj}{o:Vo}(h:ready g=some o):bW g=true:=by
 obtain⟨_,_,_,_,_,_,_,_,_,_,_,_,_,_,hr⟩:=ready.out h;unfold bW;rw[hr]
def AP{g:Tj}{f:UW}{vs:SG}(h:cF g=some (f,vs)):bW g=true:=by
 obtain⟨_,_,_,h1,_,_⟩:=cF.out h;exact PT h1
def Sc{g:Tj}{s d:TypeId}{v:Uf}(h:pN g=some (s,d,v)):bW g=true:=by
 unfold pN at h;split at h
 ·rename_i ho;exact PT ho
 ·cases h
def apI{g:Tj}{t:TypeId}{v:Uf}(h:ws g=some (t,v)):bW g=true:=by
 unfold ws at h;split at h
 ·rename_i ho;exact PT ho
 ·cases h
section
variable {Wg fc c:Nat}{Im:cG}
def Ra{n:Nat}{g:Tj}(hi:Im fc 0=some (.chan (some c)))(h1:cF g=some (123,#[pW Wg 0])) (h3:∀w,fP w n 0 (fin g (.tuple #[]))=fO w n 0 (fin g (.tuple #[])))
  (h4:ws (cK S_ false n (fin g (.tuple #[])))=some (139,pW fc 0)) (h5:rz (cK S_ false n (fin g (.tuple #[])))=true)
  (h6:yK (fin (cK S_ false n (fin g (.tuple #[]))) (.chan (some c)))=some (.chan (some c))) (h7:rz (fin (cK S_ false n (fin g (.tuple #[]))) (.chan (some c)))=true) (h8:bW (fin (cK S_ false n (fin g (.tuple #[]))) (.chan (some c)))=true)
  (h9:mayWake S_ (fin (cK S_ false n (fin g (.tuple #[]))) (.chan (some c)))=true) (h10:∀w,A1 w 4 (fin (fin (cK S_ false n (fin g (.tuple #[]))) (.chan (some c))) (.tuple #[]))=A0 w 4 (fin (fin (cK S_ false n (fin g (.tuple #[]))) (.chan (some c))) (.tuple #[]))):uZ S_ Im c Wg 0 g:=by
 refine⟨rfl,bW.out (AP h1),_,λw=>JD .acquire (λ_ _ h=>by cases h) h1 ajs,?_⟩;refine yP h3 ⟨0,rfl,bW.out (apI h4),fc,0,_,_,hi,λw hc=> ?_,0,rfl,bW.out h8,h9,_,λw s hw=> ?_,ajP h10⟩
 ·obtain⟨d,cm,iD⟩:=Uv.1 t173;exact atG h4 cm iD (by simpa[rz]using h5) hc
 ·exact atF h6 (by simpa[rz]using h7) hw
def ac1{n1 n2:Nat}{g:Tj}(h1:∀w,fP w n1 1 g=fO w n1 1 g)(h2:cF (cK S_ false n1 g)=some (112,#[])) (h3:∀w,fP w n2 0 (fin (cK S_ false n1 g) (.tuple #[]))=fO w n2 0 (fin (cK S_ false n1 g) (.tuple #[])))
  (h4:pN (cK S_ false n2 (fin (cK S_ false n1 g) (.tuple #[])))=some (158,160,pW Wg 0)) (h5:uZ S_ Im c Wg 0 (fin (cK S_ false n2 (fin (cK S_ false n1 g) (.tuple #[]))) (pW Wg 0))):∃n,iJ S_ Wg (uZ S_ Im c Wg) n 1 g:=by
 refine Ls h1 ?_;refine atq (bW.out (AP h2)) (O8 (.inr rfl)) (λw=>JC (λ_ h=>by cases h) h2 ajp) ?_;refine Ls (d:=deafBehind 1 #[⟨.mark .enable,false,true⟩]) h3 ?_;exact aeZ (bW.out (Sc h4)) (λw x y hW=>JE h4 afR JK i182 hW.st.1) ⟨0,h5⟩
def avA{h:Tj}(hi:Im fc 0=some (.chan (some c)))(H:∀w,zT Wg c w h=zR Wg fc c w h):cF h=some (135,#[pW Wg 0])/\∃n,iJ S_ Wg (uZ S_ Im c Wg) n 1 (fin h (.int .u64 0)):=by
 have key:∀w,cF h=some ((135:UW),#[pW Wg 0])/\bW h=true/\fP w 31 1 (fin h (.int .u64 0))=fO w 31 1 (fin h (.int .u64 0))/\cF (Au h)=some ((112:UW),(#[]:SG))/\fP w 3 0 (fin (Au h) (.tuple #[]))=fO w 3 0 (fin (Au h) (.tuple #[]))/\pN (QR h)=some ((158:TypeId),(160:TypeId),pW Wg 0)/\cF (wJ Wg h)=some ((123:UW),#[pW Wg 0])/\bW (wJ Wg h)=true/\fP w 22 0 (fin (wJ Wg h) (.tuple #[]))=fO w 22 0 (fin (wJ Wg h) (.tuple #[]))/\ws (F_ Wg h)=some ((139:TypeId),pW fc 0)/\rz (F_ Wg h)=true/\yK (wK Wg c h)=some (YQ (some c))/\rz (wK Wg c h)=true/\bW (wK Wg c h)=true/\mayWake S_ (wK Wg c h)=true/\A1 w 4 (J8 Wg c h)=A0 w 4 (J8 Wg c h):=λw=>by
  have:=H w;unfold zT zR at this;simpa only[We]using this
 obtain⟨k1,k2,_,k4,_,k6,k7,k8,_,Fc,Ox,B3,Oy,Fe,Oz,_⟩:=key default;refine⟨k1,ac1 (n1:=31) (n2:=3) (λw=>(key w).2.2.1) k4 (λw=>(key w).2.2.2.2.1) k6 ?_⟩;exact Ra (n:=22) hi k7 (λw=>(key w).2.2.2.2.2.2.2.2.1) Fc Ox B3 Oy Fe Oz (λw=>(key w).2.2.2.2.2.2.2.2.2.2.2.2.2.2.2)
def aiL{b:Tj}{v:Nat}(hv:0<v)(hi:Im fc 0=some (.chan (some c)))(H:∀w,fT Wg c w b=fR Wg fc c w b ((v:Int)* 4294967296))(hm:∃n,cY S_ (eZ S_ Im c Wg v) n 1 (O3 b)):F' S_ c Wg Im v 1 b:=by
 have key:∀w,cF b=some ((137:UW),#[pW Wg 0,.int .u64 ((v:Int)* 4294967296),.int .u64 ((v:Int)* 4294967296+1)])/\bW b=true/\fP w 25 1 (fin b (.bool false))=fO w 25 1 (fin b (.bool false))/\fP w 19 1 (fin b (.bool true))=fO w 19 1 (fin b (.bool true))/\pN (f96 b)=some ((165:TypeId),(160:TypeId),pW Wg 1)/\cF (f97 Wg b)=some ((126:UW),#[pW Wg 1])/\bW (f97 Wg b)=true/\fP w 23 1 (fin (f97 Wg b) (.tuple #[]))=fO w 23 1 (fin (f97 Wg b) (.tuple #[]))/\cF (f121 Wg b)=some ((127:UW),#[pW Wg 1,.bool false])/\(f121 Wg b).offers=none/\fP w 16 1 (fin (f121 Wg b) (.tuple #[]))=fO w 16 1 (fin (f121 Wg b) (.tuple #[]))/\cF (f138 Wg b)=some ((135:UW),#[pW Wg 0])/\fP w 11 1 (fin (f138 Wg b) (.int .u64 0))=fO w 11 1 (fin (f138 Wg b) (.int .u64 0))/\cF (f150 Wg b)=some ((112:UW),(#[]:SG))/\fP w 3 0 (fin (f150 Wg b) (.tuple #[]))=fO w 3 0 (fin (f150 Wg b) (.tuple #[]))/\pN (f154 Wg b)=some ((158:TypeId),(160:TypeId),pW Wg 0)/\cF (f155 Wg b)=some ((123:UW),#[pW Wg 0])/\bW (f155 Wg b)=true/\fP w 12 0 (fin (f155 Wg b) (.tuple #[]))=fO w 12 0 (fin (f155 Wg b) (.tuple #[]))/\ws (f168 Wg b)=some ((139:TypeId),pW fc 0)/\rz (f168 Wg b)=true/\yK (f169 Wg c b)=some (YQ (some c))/\rz (f169 Wg c b)=true/\bW (f169 Wg c b)=true/\mayWake S_ (f169 Wg c b)=true/\A1 w 4 (f170 Wg c b)=A0 w 4 (f170 Wg c b):=λw=>by
  have:=H w;unfold fT fR at this;simpa only[We]using this
 obtain⟨k1,k2,_,_,k5,k6,k7,_,k9,Fc,_,B3,_,Fe,_,OA,OC,k18,_,OD,OE,OF,OG,OH,OI,_⟩:=key default;refine⟨rfl,bW.out k2,⟨_,λw hW=>atD k1 aah hW.st.1 hW.st.2.2.1,?_⟩,λu hu=>⟨_,λw hW=>atE k1 aah hW.st.1 hW.st.2.2.1 (λe=> ?_),?_⟩⟩
 ·refine Ls (λw=>(key w).2.2.2.1) ?_;have hs:S_.underlying 165=some (.pointer (JL.choose))/\(S_.info? JL.choose).map (λi=>decide (i.size=0))=some false:=JL.choose_spec;refine aeZ (bW.out (Sc k5)) (λw x y hW=>JE k5 hs.1 JK hs.2 hW.st.2.1) ⟨0,rfl,bW.out k7,_,λw=>JD .write (λ_ _ h=>by cases h) k6 ajt,?_⟩;refine yP (λw=>(key w).2.2.2.2.2.2.2.1) ⟨0,rfl,bW.out (AP k9),Fc,λw st hW=> ?_,fin (f121 Wg b) (.tuple #[]),λw hW=> ?_,?_⟩
  ·exact atK k9 aaf hW.st.2.1
  ·exact atH (n:=1) k9 aaf hW.st.2.1 (by decide) hW.st.2.2.2
  ·refine yP (λw=>(key w).2.2.2.2.2.2.2.2.2.2.1) ⟨0,rfl,bW.out (AP B3),_,λw hW=>Qh B3 Lg hW.st.1,?_⟩;refine ac1 (n1:=11) (n2:=3) (λw=>(key w).2.2.2.2.2.2.2.2.2.2.2.2.1) Fe (λw=>(key w).2.2.2.2.2.2.2.2.2.2.2.2.2.2.1) OA ?_;exact Ra (n:=12) hi OC (λw=>(key w).2.2.2.2.2.2.2.2.2.2.2.2.2.2.2.2.2.2.1) OD OE OF OG OH OI (λw=>(key w).2.2.2.2.2.2.2.2.2.2.2.2.2.2.2.2.2.2.2.2.2.2.2.2.2)
 ·unfold KK at e;omega
 ·exact yP (λw=>(key w).2.2.1) hm
def nk(hi:Im fc 0=some (.chan (some c))){h:Tj}{k:Nat}(hz:∀w,zT Wg c w h=zR Wg fc c w h)
  (hv:∀v,0<v->v<=k->v<=4->(∀w,fP w 48 1 (fin h (.int .u64 ((v:Int)* 4294967296)))=fO w 48 1 (fin h (.int .u64 ((v:Int)* 4294967296))))/\(∀w,fT Wg c w (f76 h ((v:Int)* 4294967296))=fR Wg fc c w (f76 h ((v:Int)* 4294967296)) ((v:Int)* 4294967296))/\eZ S_ Im c Wg v 1 (O3 (f76 h ((v:Int)* 4294967296)))):eZ S_ Im c Wg (k+1) 1 h:=by
 obtain⟨z1,z2⟩:=avA hi hz;rw[eZ];refine⟨rfl,bW.out (AP z1),λv h1 h2=> ?_⟩;refine⟨_,λw hW=>Qh z1 Lg hW.st.1,λe=> ?_,λe=> ?_⟩
 ·subst e;exact z2
 ·obtain⟨q1,q2,q3⟩:=hv v (by omega) h1 h2;exact yP q1 ⟨0,aiL (by omega) hi q2 ⟨0,q3⟩⟩
def ee{l:SD}{v:Int}(h:∀w,pT Wg fc c w l v=pR Wg fc c w l v):(∀w,fP w 48 1 (fin (hd Wg fc l) (.int .u64 v))=fO w 48 1 (fin (hd Wg fc l) (.int .u64 v)))/\(∀w,fT Wg c w (bd Wg fc l v)=fR Wg fc c w (bd Wg fc l v) v)/\(∀w,zT Wg c w (hd Wg fc (v::l))=zR Wg fc c w (hd Wg fc (v::l))):=by
 refine⟨λw=>(X2 (h w)).1,λw=>(X2 (X2 (h w)).2).1,λw=>(X2 (X2 (h w)).2).2⟩
end
section
variable (Wg fc c:Nat){Im:cG}
def anM(hi:Im fc 0=some (.chan (some c))):eZ S_ Im c Wg 1 1 (hd Wg fc [1* 4294967296]):=by
 refine nk (k:=0) hi (ee (Px Wg fc c)).2.2 λv h1 h2 h3=> ?_;omega
def anN(hi:Im fc 0=some (.chan (some c))):eZ S_ Im c Wg 1 1 (hd Wg fc [1* 4294967296,2* 4294967296]):=by
 refine nk (k:=0) hi (ee (Py Wg fc c)).2.2 λv h1 h2 h3=> ?_;omega
def anU(hi:Im fc 0=some (.chan (some c))):eZ S_ Im c Wg 2 1 (hd Wg fc [2* 4294967296]):=by
 refine nk (k:=1) hi (ee (PH Wg fc c)).2.2 λv h1 h2 h3=> ?_;rcases(show v=1 by omega)with rfl
 ·exact⟨(ee (Py Wg fc c)).1,(ee (Py Wg fc c)).2.1,anN Wg fc c hi⟩
def anR(hi:Im fc 0=some (.chan (some c))):eZ S_ Im c Wg 1 1 (hd Wg fc [1* 4294967296,3* 4294967296]):=by
 refine nk (k:=0) hi (ee (PE Wg fc c)).2.2 λv h1 h2 h3=> ?_;omega
def anO(hi:Im fc 0=some (.chan (some c))):eZ S_ Im c Wg 1 1 (hd Wg fc [1* 4294967296,2* 4294967296,3* 4294967296]):=by
 refine nk (k:=0) hi (ee (Pz Wg fc c)).2.2 λv h1 h2 h3=> ?_;omega
def anV(hi:Im fc 0=some (.chan (some c))):eZ S_ Im c Wg 2 1 (hd Wg fc [2* 4294967296,3* 4294967296]):=by
 refine nk (k:=1) hi (ee (PI Wg fc c)).2.2 λv h1 h2 h3=> ?_;rcases(show v=1 by omega)with rfl
 ·exact⟨(ee (Pz Wg fc c)).1,(ee (Pz Wg fc c)).2.1,anO Wg fc c hi⟩
def anY(hi:Im fc 0=some (.chan (some c))):eZ S_ Im c Wg 3 1 (hd Wg fc [3* 4294967296]):=by
 refine nk (k:=2) hi (ee (PL Wg fc c)).2.2 λv h1 h2 h3=> ?_;rcases(show v=1\/v=2 by omega)with rfl|rfl
 ·exact⟨(ee (PE Wg fc c)).1,(ee (PE Wg fc c)).2.1,anR Wg fc c hi⟩
 ·exact⟨(ee (PI Wg fc c)).1,(ee (PI Wg fc c)).2.1,anV Wg fc c hi⟩
def anT(hi:Im fc 0=some (.chan (some c))):eZ S_ Im c Wg 1 1 (hd Wg fc [1* 4294967296,4* 4294967296]):=by
 refine nk (k:=0) hi (ee (PG Wg fc c)).2.2 λv h1 h2 h3=> ?_;omega
def anQ(hi:Im fc 0=some (.chan (some c))):eZ S_ Im c Wg 1 1 (hd Wg fc [1* 4294967296,2* 4294967296,4* 4294967296]):=by
 refine nk (k:=0) hi (ee (PC Wg fc c)).2.2 λv h1 h2 h3=> ?_;omega
def anX(hi:Im fc 0=some (.chan (some c))):eZ S_ Im c Wg 2 1 (hd Wg fc [2* 4294967296,4* 4294967296]):=by
 refine nk (k:=1) hi (ee (PK Wg fc c)).2.2 λv h1 h2 h3=> ?_;rcases(show v=1 by omega)with rfl
 ·exact⟨(ee (PC Wg fc c)).1,(ee (PC Wg fc c)).2.1,anQ Wg fc c hi⟩
def anS(hi:Im fc 0=some (.chan (some c))):eZ S_ Im c Wg 1 1 (hd Wg fc [1* 4294967296,3* 4294967296,4* 4294967296]):=by
 refine nk (k:=0) hi (ee (PF Wg fc c)).2.2 λv h1 h2 h3=> ?_;omega
def anP(hi:Im fc 0=some (.chan (some c))):eZ S_ Im c Wg 1 1 (hd Wg fc [1* 4294967296,2* 4294967296,3* 4294967296,4* 4294967296]):=by
 refine nk (k:=0) hi (ee (PB Wg fc c)).2.2 λv h1 h2 h3=> ?_;omega
def anW(hi:Im fc 0=some (.chan (some c))):eZ S_ Im c Wg 2 1 (hd Wg fc [2* 4294967296,3* 4294967296,4* 4294967296]):=by
 refine nk (k:=1) hi (ee (PJ Wg fc c)).2.2 λv h1 h2 h3=> ?_;rcases(show v=1 by omega)with rfl
 ·exact⟨(ee (PB Wg fc c)).1,(ee (PB Wg fc c)).2.1,anP Wg fc c hi⟩
def anZ(hi:Im fc 0=some (.chan (some c))):eZ S_ Im c Wg 3 1 (hd Wg fc [3* 4294967296,4* 4294967296]):=by
 refine nk (k:=2) hi (ee (PM Wg fc c)).2.2 λv h1 h2 h3=> ?_;rcases(show v=1\/v=2 by omega)with rfl|rfl
 ·exact⟨(ee (PF Wg fc c)).1,(ee (PF Wg fc c)).2.1,anS Wg fc c hi⟩
 ·exact⟨(ee (PJ Wg fc c)).1,(ee (PJ Wg fc c)).2.1,anW Wg fc c hi⟩
def an0(hi:Im fc 0=some (.chan (some c))):eZ S_ Im c Wg 4 1 (hd Wg fc [4* 4294967296]):=by
 refine nk (k:=3) hi (ee (PN Wg fc c)).2.2 λv h1 h2 h3=> ?_;rcases(show v=1\/v=2\/v=3 by omega)with rfl|rfl|rfl
 ·exact⟨(ee (PG Wg fc c)).1,(ee (PG Wg fc c)).2.1,anT Wg fc c hi⟩
 ·exact⟨(ee (PK Wg fc c)).1,(ee (PK Wg fc c)).2.1,anX Wg fc c hi⟩
 ·exact⟨(ee (PM Wg fc c)).1,(ee (PM Wg fc c)).2.1,anZ Wg fc c hi⟩
def hq_(hi:Im fc 0=some (.chan (some c))):eZ S_ Im c Wg 5 1 (hd Wg fc []):=by
 refine nk (k:=4) hi (zz Wg fc c) λv h1 h2 h3=> ?_;rcases(show v=1\/v=2\/v=3\/v=4 by omega)with rfl|rfl|rfl|rfl
 ·exact⟨(ee (Px Wg fc c)).1,(ee (Px Wg fc c)).2.1,anM Wg fc c hi⟩
 ·exact⟨(ee (PH Wg fc c)).1,(ee (PH Wg fc c)).2.1,anU Wg fc c hi⟩
 ·exact⟨(ee (PL Wg fc c)).1,(ee (PL Wg fc c)).2.1,anY Wg fc c hi⟩
 ·exact⟨(ee (PN Wg fc c)).1,(ee (PN Wg fc c)).2.1,an0 Wg fc c hi⟩
def aiU(hi:Im fc 0=some (.chan (some c))):Kc S_ Im c Wg (born S_ ⟨.fn (.func 100) #[pW Wg 0,pW fc 0],#[]⟩):=by
 have h0:∀w,fP w 7 0 (e0 Wg fc)=fO w 7 0 (e0 Wg fc)/\cF (e7 Wg fc)=some ((111:UW),(#[]:SG))/\fP w 19 1 (e8 Wg fc)=fO w 19 1 (e8 Wg fc):=λw=>by
  have:=c0 Wg fc w;simpa only[We]using this
 show ∃n,cY S_ (eZ S_ Im c Wg 5) n 0 (e0 Wg fc);refine yP (λw=>(h0 w).1) ?_;refine Qd (bW.out (AP (h0 default).2.1)) (O8 (.inl rfl)) (λw=>JC (λ_ h=>by cases h) (h0 default).2.1 Lf) ?_;exact yP (d:=deafBehind 0 #[⟨.mark .disable,false,true⟩]) (λw=>(h0 w).2.2) ⟨0,hq_ Wg fc c hi⟩
end
open Go.Gg.Tk
section
variable {lv:Bool}{P:Tl}{r:SL}{nt:Nat}{E:Env}{V:View}{a:Act}{s:AS}{c:U_}{Q:SJ}
def AK(s3:AS)(aj:At E V s a nt)(h:aS lv P r nt c s (λe s'=>match e with|.normal=>s'.Sub s3|_=>False))(hQ:∀E' V' a',Kept E E' V V' a a'->At E' V' s3 a' nt->Q .normal a' V'):WP lv P r c Q a V:=
 h E V a Q aj λae e E' V' a' s' hk aX he hΦ=>by
  cases ae<;>cases e<;>first
   |exact he.elim
   |exact hΦ.elim
   |exact hQ E' V' a' hk (aX.sub hΦ)
def unwind_mark{lv:Bool}{P:Tl}{main:Bool}{J:SM}(C:Closed lv P main J){V:View}{fr:VR}{cs:SX}{b:Nat}{ds:S5}(h4:fr.defers={target:=.collected b,args:=#[]}::ds) (hm:(fr.mode matches .run)=false) (ho:V.own b=some (.deferred (some []))) (fy:V.role.chan≠some b) (h:J (V.upd b (.deferred none)) (G {fr with defers:=ds} cs)):J V (G fr cs):=by
 refine C.step _ _ rfl λw hw=> ?_;obtain⟨es,w',V',k1,k2,k3⟩:=(P7 (P:=P) ho fy).runs hw;rcases k3 with⟨x,k3,rfl,rfl⟩|⟨_,_,hx⟩
 ·refine⟨G {fr with defers:=ds} cs,w',seen P fr.fn es,_,?_,k1.seen P fr.fn,h⟩;have e:stepG P main (G fr cs) w=unwind P main fr cs none w:=by
   obtain⟨fn,tmps,todo,defers,mode,kind,ro⟩:=fr;cases mode with
   |run=>cases hm
   |returning=>simp[G,stepG]
   |panicking ch=>simp[G,stepG]
  rw[e];simp only[unwind,h4];simp[UF,k3,k2,U8,G]
 ·exact hx.elim
def dY{s s':AS}(h:∀p∈s'.T,∃b,look s.T p.1=some b/\Wk b p.2)(hH:s.H=s'.H):s.Sub s':=⟨λ_ _ e=>h _ (po e),hH⟩
def vo{E:Env}{x v:Uf}(h:au E (.val x) v):v=x:=by cases h;rfl
def G0{E:Env}{cs:SG}(h:cO E [] cs):cs=#[]:=Array.size_eq_zero_iff.1 h.1
def St{E:Env}{l:TE}{cs:SG}(h:cO E (l.map .val) cs):cs=l.toArray:=by
 have hs:cs.size=l.length:=by simpa using h.1
 refine Array.ext hs λi h1 h2=> ?_;have hi:i<l.length:=by simpa using h2
 have:=vo (h.2 i (.val l[i]) (by simp[Tw hi]));rw[Ti,Tn h1]at this;simpa using this
def sS (K:Kn)(b:Nat):List Uf:=.bool K.has:: .map (some b)::(K.ap.map (λn:Nat=>Th .u16 n)++(K.hours.map (λn:Nat=>Th .u16 n)++(K.less.map (λn:Nat=>Th .u16 n)++(K.aY.map (λn:Nat=>Th .u16 n)++K.first.map (Th .i64)))))
def sR (K:Kn):Obj:=.map (K.aM.zipIdx.map dS).toArray K.aM.length
def ai9{E:Env}{K:Kn}{mp:Nat}{v:Uf}(h:au E (.agg (K.l mp)) v):v=.agg (sS K (E.blk mp)).toArray:=by
 cases h with
 |agg hs h=>
  rename_i cs;congr 1;have hl:(K.l mp).length=(sS K (E.blk mp)).length:=by simp[Kn.l,sS]
  have key:∀(i:Nat)(x:AV),(K.l mp)[i]?=some x->∀y,au E x y->(sS K (E.blk mp))[i]?=some y:=by
   intro i x hx y hy
   match i with
   |0=>cases hx;rw[vo hy];rfl
   |1=>cases hx;cases hy;rfl
   |i+2=>
    have e:(K.l mp)[i+2]?=((K.ap.map (λn:Nat=>Th .u16 n)++(K.hours.map (λn:Nat=>Th .u16 n)++(K.less.map (λn:Nat=>Th .u16 n)++(K.aY.map (λn:Nat=>Th .u16 n)++K.first.map (Th .i64))))).map AV.val)[i]?:=by
     simp[Kn.l,wv,iv,Zy]
    rw[e,Ut]at hx;obtain⟨z,h1,rfl⟩:=Uv.1 hx;rw[vo hy];exact h1
  have mM:cs.size=(sS K (E.blk mp)).length:=hs.trans hl;refine Array.ext mM λi h1 h2=> ?_;have hi:i<(K.l mp).length:=by omega
  have:=key i _ (Tw hi) _ (h i _ (Tw hi));rw[Ti,Tn h1]at this;have h3:(sS K (E.blk mp)).toArray[i]?=some cs[i]:=by simpa using this
  rw[Tn h2]at h3;exact(WV h3).symm
def rF (x:ak)(deep:Int)(bu:Nat):Spec:=λv _ Ow=>∃b,v=.agg (sS (iw x deep bu) b).toArray/\∀b',Ow b'=if b'=b then some (sR (iw x deep bu))else none
set_option maxRecDepth 100000 in
def art:S_.funcs.size=184:=by kernel_rfl
def QF{x:ak}{deep:Int}{bu:Nat}(hx:x.Ok)(hA:∀h∈kU x bu,jO h/\∀ns∈gE x h,∀a∈(iR x h ns).map (dq h ns),jd x a):bP (iw x deep bu):=by
 unfold iw;refine L4 hx (λt ht=> ?_) Fh;obtain⟨h,h1,h2⟩:=T9.1 ht;obtain⟨ns,h3,h4⟩:=JI h2;exact(hA h h1).2 ns h3 t h4
def avo{J:SM}(C:Av S_ false J){E:Env}{V:View}{x:ak}{bu c Wg:Nat}{deep:Int}{rv tv dv fv:Uf}(hx:x.Ok)(kX:bu<=3)(hA:∀h∈kU x bu,jO h/\∀ns∈gE x h,∀a∈(iR x h ns).map (dq h ns),jd x a)(amC:Conc E V [])
  (hr:au E (.rp x.l) rv) (ht:au E (.rp [iv bu]) tv) (hd:au E (.rp [iv deep]) dv) (hf:au E (.rp [.val (.chan (some c))]) fv) (cy:V.role=.work c Wg [rF x deep bu]) (fz:V.deaf=0):J V (born S_ ⟨.fn (.func 97) #[pW Wg 0,rv,tv,dv,fv],#[]⟩):=by
 have C':Closed false S_ false J:={C with more:=λh=>by cases h};unfold born;rw[art];refine afU C' (fr:={(default:VR)with fn:=184,defers:=[⟨.fn (.func 97) #[pW Wg 0,rv,tv,dv,fv],#[]⟩],mode:=.panicking [goexitEntry]}) (ds:=[]) rfl rfl (by kernel_rfl) ?_;refine ajD (Q:=λa' V'=>∃b,a'.defers=[{target:=.collected b,args:=#[]},⟨.fn (.func 98) #[],#[pW Wg 0]⟩]/\V'.own b=some (.deferred (some []))/\V'.role=.work c Wg []/\V'.deaf=0) C' (by simp) F.f97 rfl ?_ ?_
 rotate_left
 ·rintro a' V' todo ⟨b,h1,h0,h2,h3⟩
  refine unwind_mark C' (ds:=[⟨.fn (.func 98) #[],#[pW Wg 0]⟩]) h1 rfl h0 (by rw[h2];simp[nJ.chan]) ?_;refine afU C' (ds:=[]) rfl rfl (by kernel_rfl) ?_;exact ajj Wg a'.tmps todo C h2 h3
 have cS:cO E [.val (pW Wg 0),.rp x.l,.rp [iv bu],.rp [iv deep],.rp [.val (.chan (some c))]] (#[]++#[pW Wg 0,rv,tv,dv,fv]):=by
  refine⟨rfl,λi a e=> ?_⟩
  match i,e with
  |0,e=>cases e;exact .val _
  |1,e=>cases e;exact hr
  |2,e=>cases e;exact ht
  |3,e=>cases e;exact hd
  |4,e=>cases e;exact hf
 have aj:=Di (nt:=25) amC cS (by simp);simp only[bm,Tu]at aj;refine wp_seq ?_;refine(RB (nt:=25) (n:=0) (ds:=[]) (Φ:=λe s' nU=>e=.normal/\s'=⟨[(0,.val (pW Wg 0)),(1,.rp x.l),(2,.rp [iv bu]),(3,.rp [iv deep]),(4,.rp [.val (.chan (some c))])],[]⟩/\nU=[(.fn (.func 98) [] [],[.val (pW Wg 0)])]) rfl rfl rfl rfl rfl rfl (by kernel_rfl) ?_) E V _ _ aj trivial λae e E1 V1 a1 s1 ds1 gT xo cm Ej h1=> ?_
 ·(try simp only[seval]);exact⟨_,_,_,rfl⟩
 obtain⟨rfl,rfl,rfl⟩:=h1;cases e<;>first
  |exact Ej.elim
  |skip
 have amL:a1.defers=[⟨.fn (.func 98) #[],#[pW Wg 0]⟩]:=by
  match jB:a1.defers,cm with
  |[d],cm=>
   obtain⟨⟨f,first,cZ,fa,ca,vs,q1,rfl,q3,q4,q5⟩,_⟩:=cm;cases q1;rw[G0 q3,G0 q4,St (l:=[pW Wg 0]) q5];rfl
  |[],cm=>exact cm.elim
  |_::_::_,cm=>exact cm.2.elim
 refine wp_seq ?_;refine AK ⟨[(5,.op 1 0),(0,.val (pW Wg 0)),(1,.rp x.l),(2,.rp [iv bu]),(3,.rp [iv deep]),(4,.rp [.val (.chan (some c))])],[setH [],.cells (Kn.zero.l 0) 88]⟩ xo ?_ λE2 V2 a2 cp vG=> ?_
 ·refine ah ?_;exact dY (by simp only[seval];simp[bh,Wk.refl]) rfl
 refine wp_seq (wp_seq ?_);refine AK ⟨wj x bu deep c (pW Wg 0),xR x bu Kn.zero⟩ vG ?_ λE3 V3 a3 xE qT=> ?_
 ·refine ab ?_;simp only[seval,TO];refine aG (LD (x:=x) (n:=bu) ?_);(try simp only[seval]);exact dY (by unfold wj;simp only[seval];simp[bh,Wk.refl];exact Wk.refl _) rfl
 have amM:a3.defers=[⟨.fn (.func 98) #[],#[pW Wg 0]⟩]:=xE.defers.trans (cp.defers.trans amL);have an1:V3.role=.work c Wg [rF x deep bu]:=xE.role.trans (cp.role.trans (gT.role.trans cy));have amG:V3.deaf=0:=xE.deaf.trans (cp.deaf.trans (gT.deaf.trans fz));refine aoI (lv:=false) (bs:=[⟨.fn (.func 98) #[],#[pW Wg 0]⟩]) hx kX hA (λe s' cJ=>e=.normal/\s'=⟨wj x bu deep c (pW Wg 0),xR x bu (iw x deep bu)++[.obj (.deferred (some [])),.gone]⟩/\cJ=[4]) ⟨rfl,rfl,rfl⟩ E3 V3 a3 _ qT ⟨by simp[amM],by simp⟩ λae e E4 V4 a4 s4 ms4 sB so anj he4 hΦ4=> ?_;obtain⟨rfl,rfl,rfl⟩:=hΦ4;cases e<;>first
  |exact he4.elim
  |skip
 have amN:a4.defers=[{target:=.collected (E4.blk 4),args:=#[]},⟨.fn (.func 98) #[],#[pW Wg 0]⟩]:=anj.1;have an2:V4.role=.work c Wg [rF x deep bu]:=sB.role.trans an1;have abK:V4.deaf=0:=sB.deaf.trans amG;have y_:bP (iw x deep bu):=QF hx hA;generalize hW:iw x deep bu=W at so y_;have ub:=Kn.len y_ 0;refine JV (K:=λs'=>look s'.T 23=some (.val (.chan (some c)))/\look s'.T 24=some (.agg (W.l 0))/\s'.Sub ⟨wj x bu deep c (pW Wg 0),xR x bu W++[.obj (.deferred (some [])),.gone]⟩) 2 1 rfl (by kernel_rfl) so ?_ λE5 V5 a5 s5 gU kE hK=> ?_
 ·unfold wj xR;(try simp only[seval,ub]);rw[Tx (i:=28) (by omega)];exact⟨rfl,dY (by simp only[seval];simp[bh,Wk.refl]) rfl⟩
 obtain⟨l23,l24,mh⟩:=hK;have HH:=kE.sub mh;have e23:a5.eval (.tmp 23)=.chan (some c):=vo (kE.tok _ _ l23).2;have e24:a5.eval (.tmp 24)=.agg (sS W (E5.blk 0)).toArray:=ai9 (kE.tok _ _ l24).2;have h0:V5.own (E5.blk 0)=some (sR W):=(HH.bB.obj 0 (setH W.aM) rfl).1;have h4:V5.own (E5.blk 4)=some (.deferred (some [])):=(HH.bB.obj 4 (.obj (.deferred (some []))) rfl).1;have aF:E5.blk 4≠E5.blk 0:=λe=>by rw[e,h0]at h4;cases h4
 have ME:E5.blk 4=E4.blk 4:=gU.le.blk 4 (by rw[so.bB.n];simp[xR]);refine QK rfl rfl ?_;refine⟨c,Wg,rF x deep bu,[],λb=>decide (b=E5.blk 0),e23,by rw[gU.role];exact an2,gU.deaf.trans abK,⟨E5.blk 0,by rw[hW];exact e24,λb'=> ?_⟩,?_⟩
 ·rw[hW];by_cases hb:b'=E5.blk 0
  ·subst hb;simp[h0]
  ·simp[hb]
 ·refine⟨trivial,E5.blk 4,?_,?_,rfl,gU.deaf.trans abK⟩
  ·rw[ME];exact gU.defers.trans amN
  ·show (if decide (E5.blk 4=E5.blk 0)=true then none else V5.own (E5.blk 4))=_;rw[if_neg (by simpa using aF)];exact h4
def aq6(r:SL):AV.parts (.val (.chan r))=some [.val (.chan r)]:=rfl
def avD(r:SL):mv (.chan r)=[.val (.chan r)]:=rfl
def ao8(r:SL):AV.leaf (.val (.chan r))=true:=rfl
def QH{x y:U_}{t:Nat}{b:Bool}(aj:At E V s a nt)(hl:look s.T t=some (.val (.bool b)))(h:WP lv P r (if b then x else y) Q a V):WP lv P r (.cond (.tmp t) x y) Q a V:=by
 have hd:=(aj.tok t _ hl).2;generalize hx:a.tmps.getD t undef=v at hd;cases hd;exact wp_cond (t:=b) hx h
end
def So{E:Env}{f:Fn}{first cZ:SC}{v:Uf}(h:au E (.fn f first cZ) v):∃fa ca,v=.func f fa ca/\cO E first fa/\cO E cZ ca:=by
 cases h with
 |fn ep ft h1 h2=>exact⟨_,_,rfl,⟨ep,h1⟩,⟨ft,h2⟩⟩
def Ds{E:Env}{i o:Nat}{v:Uf}(h:au E (.op i o) v):v=.pointer (some ⟨E.blk i,o,none⟩):=by cases h;rfl
def IW(x:ak)(n:Nat):∀a∈x.l,Lt n a:=by
 intro a ha;simp only[ak.l,Tm,T7,or_false]at ha;rcases ha with rfl|rfl|rfl|rfl|rfl|rfl
 ·exact .val _
 ·exact .val _
 ·exact .val _
 ·rw[adq];trivial
 ·rw[IU];trivial
 ·rw[IU];trivial
def apR(x:ak):Lt 0 (.rp x.l):=by
 rw[zS];exact IW x 0
set_option maxRecDepth 100000 in
def wgT:QB S_=147:=by kernel_rfl
def ci:U_->U_
 |.block _ c|.loop c|.scope c=>c
 |_=> .skip
noncomputable def wm:U_:=YN.body.getD .skip
noncomputable def mS:U_:=cs (cs (cs wm))
def tR:Obj:=.chan 0 #[] false 0 0 false
def jb:SC:=bv false:: .val (.map none)::(UP 15 (wv 0)++UP 11 (iv 0))
def dG (x:ak)(deep:Int)(c:Nat):SA:=[.part 6 x.l 76,.part 1 [iv deep] 3,.cells jb 88,.part 1 [.val (.chan (some c))] 139,.gone]
structure jP (x:ak)(deep:Int)(Hs:SA)(E:Env)(c Wg:Nat)(rv dv fv:Uf)(T:List (Nat×AV))(M:SA)(E':Env)(V':View)(a':Act):Prop where
 aj:At E' V' ⟨T,Hs++(dG x deep c++M)⟩ a' 35
 lo:E.Lo E'
 main:E'.main=false
 defers:a'.defers=[]
 deaf:V'.deaf=0
 er:rv=.pointer (some ⟨E'.blk Hs.length,0,none⟩)
 ed:dv=.pointer (some ⟨E'.blk (Hs.length+1),0,none⟩)
 ef:fv=.pointer (some ⟨E'.blk (Hs.length+3),0,none⟩)
 dr:au E' (.rp x.l) rv
 dd:au E' (.rp [iv deep]) dv
 df:au E' (.rp [.val (.chan (some c))]) fv
 fr:∀b y,E.fr b=some y->E'.fr b=some y/\b≠c/\b≠Wg
 ne:c≠Wg
section
variable {x:ak}{deep:Int}{Hs:SA}{E:Env}{c Wg:Nat}{rv dv fv:Uf}{T T':SH}{M M' G:SA}{E1 E2:Env}{V1 V2:View}{a1 a2:Act}
def jP.JF(h:jP x deep Hs E c Wg rv dv fv T M E1 V1 a1)(le:E1.Le E2)(bI:a2.defers=a1.defers)(fz:V2.deaf=V1.deaf)(aj:At E2 V2 ⟨T',Hs++(dG x deep c++M')⟩ a2 35):jP x deep Hs E c Wg rv dv fv T' M' E2 V2 a2:=by
 have hl:∀i,i<5->Hs.length+i<E1.n:=λi hi=>by rw[h.aj.bB.n];simp[dG];omega
 exact⟨aj,h.lo.trans le.lo,le.main.trans h.main,bI.trans h.defers,fz.trans h.deaf,by have:=le.blk _ (hl 0 (by omega));rw[VA]at this;rw[this];exact h.er,by rw[le.blk _ (hl 1 (by omega))];exact h.ed,by rw[le.blk _ (hl 3 (by omega))];exact h.ef,h.dr.mono le,h.dd.mono le,h.df.mono le,λb y e=>by rw[le.fr];exact h.fr b y e,h.ne⟩
def jP.step(h:jP x deep Hs E c Wg rv dv fv T M E1 V1 a1)(hk:Kept E1 E2 V1 V2 a1 a2)(aj:At E2 V2 ⟨T',Hs++(dG x deep c++M')⟩ a2 35):jP x deep Hs E c Wg rv dv fv T' M' E2 V2 a2:=h.JF hk.le hk.defers hk.deaf aj
def jP.to(T':SH)(M':SA)(h:jP x deep Hs E c Wg rv dv fv T M E1 V1 a1){cd:U_}{Q:SJ}(hw:aS true S_ none 35 cd ⟨T,Hs++(dG x deep c++M)⟩ (λe s'=>match e with|.normal=>s'.Sub ⟨T',Hs++(dG x deep c++M')⟩|_=>False))
  (hQ:∀E2 V2 a2,Kept E1 E2 V1 V2 a1 a2->jP x deep Hs E c Wg rv dv fv T' M' E2 V2 a2->Q .normal a2 V2):WP true S_ none cd Q a1 V1:=
 AK ⟨T',Hs++(dG x deep c++M')⟩ h.aj hw λE2 V2 a2 hk aj=>hQ E2 V2 a2 hk (h.step hk aj)
def jP.cut(h:jP x deep Hs E c Wg rv dv fv T (M++G) E1 V1 a1)(hE:E.n<=Hs.length)(hT:∀p∈T',∃b,look T p.1=some b/\Wk b p.2/\Lt (Hs.length+5+M.length) p.2)(aq:bJ (Hs++(dG x deep c++M))):jP x deep Hs E c Wg rv dv fv T' M {E1 with n:=Hs.length+5+M.length} V1 a1:=by
 have hlen:(Hs++(dG x deep c++M)).length=Hs.length+5+M.length:=by simp[dG];omega
 have hc:=h.aj.cut (s':=⟨T',Hs++(dG x deep c++M)⟩) ⟨λt a e=>by
  obtain⟨b,h1,h2,h3⟩:=hT _ (po e);exact⟨b,h1,h2,by rw[hlen];exact h3⟩,⟨G,by simp⟩,aq⟩
 simp only[hlen]at hc;exact⟨hc,h.lo.cut (by omega),h.main,h.defers,h.deaf,h.er,h.ed,h.ef,h.dr.trim (by rw[zS];exact IW x _),h.dd.trim (by simp[zS,dj]),h.df.trim (by simp[zS,dj]),h.fr,h.ne⟩
def acZ(hH:bJ Hs)(hM:∀z∈M,e9 (Hs.length+5+M.length) z):bJ (Hs++(dG x deep c++M)):=by
 intro y hy;have hlen:(Hs++(dG x deep c++M)).length=Hs.length+5+M.length:=by simp[dG];omega
 rw[hlen];rcases Tv.1 hy with h|h
 ·exact(hH y h).mono (by omega)
 ·rcases Tv.1 h with h|h
  ·simp only[dG,Tm,T7,or_false]at h;rcases h with rfl|rfl|rfl|rfl|rfl
   ·exactλa ha=>IW x _ a ha
   ·intro a ha;simp at ha;subst ha;exact .val _
   ·intro a ha;simp only[jb,Tm,Tv,YL]at ha;rcases ha with rfl|rfl|⟨_,rfl⟩|⟨_,rfl⟩<;>exact .val _
   ·intro a ha;simp at ha;subst ha;exact .val _
   ·trivial
  ·exact hM y h
end
def pB (x:ak)(deep:Int)(i:Nat):List (TJ):=(T1 i).map λk=>[rF x deep k]
def Qf(x:ak)(deep:Int)(i:Nat):(pB x deep i).length=i:=by simp[pB]
def atu(x:ak)(deep:Int)(i:Nat):pB x deep (i+1)=pB x deep i++[[rF x deep i]]:=by simp[pB,VW]
def wT (x:ak):Prop:=∀bu,bu<=3->∀h∈kU x bu,jO h/\∀ns∈gE x h,∀a∈(iR x h ns).map (dq h ns),jd x a
noncomputable def jT (Hs:SA)(Wg:Nat)(n:Int)(i:Nat):List (Nat×AV):=[(16,iv i),(15,iv n),(6,.val (pW Wg 0)),(5,.op (Hs.length+3) 0),(4,.op (Hs.length+2) 0),(3,.op (Hs.length+1) 0),(2,.op Hs.length 0)]
structure wP (x:ak)(deep:Int)(Hs:SA)(E:Env)(c Wg:Nat)(rv dv fv:Uf)(i:Nat)(T:List (Nat×AV))(M:SA)(E':Env)(V':View)(a':Act):Prop where
 ok:jP x deep Hs E c Wg rv dv fv T M E' V' a'
 role:V'.role=.fork c Wg (pB x deep i)
 Hk:E'.fr c=some tR
 DE:E'.fr Wg=some (wgBlock S_ ((i:Int)* 4294967296) 0)
section
variable {x:ak}{deep n:Int}{Hs:SA}{E:Env}{c Wg i:Nat}{rv dv fv:Uf}{T T':SH}{M M':SA}{E1 E2:Env}{V1 V2:View}{a1 a2:Act}
def wP.step(h:wP x deep Hs E c Wg rv dv fv i T M E1 V1 a1)(hk:Kept E1 E2 V1 V2 a1 a2)(hc:jP x deep Hs E c Wg rv dv fv T' M' E2 V2 a2):wP x deep Hs E c Wg rv dv fv i T' M' E2 V2 a2:=
 ⟨hc,hk.role.trans h.role,by rw[hk.le.fr];exact h.Hk,by rw[hk.le.fr];exact h.DE⟩
def aoX(hx:x.Ok)(hA:wT x)(Bb:E.n<=Hs.length)(aq:bJ (Hs++(dG x deep c++[])))(h:wP x deep Hs E c Wg rv dv fv i (jT Hs Wg n i) [] E1 V1 a1)(hi:i<=3){cd:U_}{Q:SJ}(hcd:cd=cs (cs (ci (ci (cs (cf mS))))))
  (hQ:∀E2 V2 a2,wP x deep Hs E c Wg rv dv fv (i+1) (jT Hs Wg n (i+1)) [] E2 V2 a2->Q .normal a2 V2):WP true S_ none cd Q a1 V1:=by
 subst hcd;refine wp_seq (wp_block (wp_seq ?_));refine h.ok.to ((7,.op (Hs.length+5) 0)::jT Hs Wg n i) [.cells [iv i] 3] ?_ λE2 V2 a2 cp bZ=> ?_
 ·unfold jT dG;refine ah ?_;exact dY (by simp only[seval];simp[bh,Wk.refl]) rfl
 have h2:=h.step cp bZ;obtain⟨V3,g3,o3,r3,d3,IM,KY,Sk⟩:=bZ.aj.bB.Jp (id:=Hs.length+5) (by rw[aW];rfl) 1 (by simp);rw[dB]at KY;have Nk:Kept E2 {E2 with I:=V3.ai} V2 V3 a2 a2:=⟨IM,rfl,rfl,r3,d3⟩;have cQ:=bZ.step (T':=(7,.op (Hs.length+5) 0)::jT Hs Wg n i) (M':=[.part 1 [iv i] 3]) Nk ⟨KY,bZ.aj.tok.mono IM,bZ.aj.size⟩;have h3:=h2.step Nk cQ;refine WP.ghost g3 ?_;generalize{E2 with I:=V3.ai}=E3 at IM KY Sk Nk cQ h3;have e6:a2.eval (.tmp 6)=pW Wg 0:=vo (cQ.aj.tok 6 (.val (pW Wg 0)) rfl).2;obtain⟨w1,w2,w3⟩:=cQ.aj.bB.fr Wg _ h3.DE;have hrc:V3.role.chan≠some Wg:=by rw[h3.role];intro e;cases e;exact cQ.ne rfl
 refine wp_seq (af7 rfl rfl (aqQ rfl rfl (by kernel_rfl) ?_));have cS:(#[ax7 6,ayh (.int .i64 1)]:Array Ur).map a2.eval=#[pW Wg 0,.int .i64 1]:=by
  simp only[List.map_toArray,Wd,List.map_nil,e6];rfl
 rw[cS];refine(ahf (n:=i) (sm:=QB S_) (by omega) w1 w2 hrc cQ.deaf).mono λo V4 hV=> ?_;obtain⟨rfl,rfl⟩:=hV;dsimp only;refine avt ?_;let yj:Obj:=wgBlock S_ (((i+1:Nat):Int)* 4294967296) 0;show WP true S_ none _ _ (a2.put (some 19) (.tuple #[])) (V3.upd Wg yj);have tT:=cQ.aj.bB.alM h3.DE yj;let f4:Nat->Option Obj:=λb'=>if b'=Wg then some yj else E3.fr b';have jV:jP x deep Hs E c Wg rv dv fv ((7,.op (Hs.length+5) 0)::jT Hs Wg n i) [.part 1 [iv i] 3] (E3.frame f4) (V3.upd Wg yj) (a2.put (some 19) (.tuple #[])):=by
  refine⟨⟨tT,λt av e=> ?_,(eF a2 (some 19) _).trans cQ.aj.size⟩,cQ.lo.trans (Env.IS E3 f4),cQ.main,(put_defers a2 _ _).trans cQ.defers,cQ.deaf,cQ.er,cQ.ed,cQ.ef,cQ.dr.frame f4,cQ.dd.frame f4,cQ.df.frame f4,λb y e=> ?_,cQ.ne⟩
  ·have aF:t≠19:=by
    intro et;subst et;simp[jT,look]at e
   have:=((cQ.aj.tok.frame f4).put (d:=19) (a:=.aL []) (v:=.tuple #[]) (by rw[cQ.aj.size];omega) (.aL rfl (by simp))) t av (by simp only[look];rw[if_neg (Ne.symm aF)];exact e);exact this
  ·obtain⟨q1,q2,q3⟩:=cQ.fr b y e;exact⟨by show (if b=Wg then _ else _)=_;rw[if_neg q3];exact q1,q2,q3⟩
 have Sy:au (E3.frame f4) (.rp [iv i]) (.pointer (some ⟨(E3.frame f4).blk (Hs.length+5),0,none⟩)):=by
  have hl:Hs.length+5<E2.n:=by rw[bZ.aj.bB.n];simp[dG]
  have e:(E3.frame f4).blk (Hs.length+5)=E2.blk (Hs.length+5):=IM.blk _ hl;rw[e];exact Sk.frame f4
 have Ju:(V3.upd Wg yj).role=.fork c Wg (pB x deep i):=h3.role;have abf:(E3.frame f4).fr c=some tR:=by
  show (if c=Wg then _ else _)=_;rw[if_neg cQ.ne];exact h3.Hk
 have abg:(E3.frame f4).fr Wg=some yj:=by
  show (if Wg=Wg then _ else _)=_;rw[if_pos rfl]
 generalize E3.frame f4=E4 at jV Sy abf abg;generalize V3.upd Wg yj=V4 at jV Ju;generalize a2.put (some 19) (.tuple #[])=a4 at jV;clear tT;refine JV (K:=λs'=>look s'.T 20=some (.fn (.func 97) [] [.val (pW Wg 0),.op Hs.length 0,.op (Hs.length+5) 0,.op (Hs.length+1) 0,.op (Hs.length+3) 0])/\s'.Sub ⟨jT Hs Wg n i,Hs++(dG x deep c++[.part 1 [iv i] 3])⟩) 1 1 rfl (by kernel_rfl) jV.aj ?_ λE5 V5 a5 s5 gU kE hK=> ?_
 ·unfold jT dG;(try simp only[seval,Vb,VH,Vk,UX]);exact dY (by simp only[seval];simp[bh,Wk.refl]) rfl
 obtain⟨l20,mh⟩:=hK;have HH:=kE.sub mh;have cj:=jV.step gU HH;have FM:V5.role=.fork c Wg (pB x deep i):=gU.role.trans Ju;have xf:E5.fr c=some tR:=by rw[gU.le.fr];exact abf
 have DF:E5.fr Wg=some yj:=by rw[gU.le.fr];exact abg
 have dk5:=Sy.mono gU.le;have o4:Hs.length+5<E4.n:=by rw[jV.aj.bB.n];simp[dG]
 refine QK rfl rfl ?_;obtain⟨c1,c2,c3⟩:=cj.aj.bB.fr c _ xf;obtain⟨v1,v2,v3⟩:=cj.aj.bB.fr Wg _ DF;have e20:a5.eval (.tmp 20)=.func (.func 97) #[] #[pW Wg 0,rv,.pointer (some ⟨E5.blk (Hs.length+5),0,none⟩),dv,fv]:=by
  obtain⟨fa,ca,q1,q2,q3⟩:=So (kE.tok 20 _ l20).2;rw[G0 q2]at q1;refine q1.trans ?_;have NP:ca.size=5:=q3.1;have k0:=vo (q3.2 0 _ rfl);have k1:=Ds (q3.2 1 _ rfl);have k2:=Ds (q3.2 2 _ rfl);have k3:=Ds (q3.2 3 _ rfl);have k4:=Ds (q3.2 4 _ rfl);rw[<- cj.er]at k1;rw[<- cj.ed]at k3;rw[<- cj.ef]at k4;congr 1;refine Array.ext NP λj h1 h2=> ?_;have hj:j=0\/j=1\/j=2\/j=3\/j=4:=by omega
  rw[Ti,Tn (by omega)]at k0 k1 k2 k3 k4;rcases hj with rfl|rfl|rfl|rfl|rfl
  ·exact k0
  ·exact k1
  ·exact k2
  ·exact k3
  ·exact k4
 refine⟨rfl,.tmp 20,97,#[],_,rfl,e20,cj.deaf,.inl ⟨c,Wg,pB x deep i,rF x deep i,[],FM,c1,?_,?_,v2,λJ0 C=> ?_,?_⟩⟩
 ·rw[v1,Qf]
 ·rw[Qf];omega
 ·have hb:E5.blk (Hs.length+5)=E4.blk (Hs.length+5):=gU.le.blk _ o4;rw[hb];have:=avo (J:=J0) (V:={ai:=V5.ai,own:=λ_=>none,deaf:=0,role:=.work c Wg [rF x deep i]}) C hx hi (hA i hi) (aiX cj.aj.bB.I rfl rfl) (cj.dr.bare (apR x)) (dk5.bare (by simp[zS,dj])) (cj.dd.bare (by simp[zS,dj])) (cj.df.bare (by simp[zS,dj])) rfl rfl;simpa using this
 let V6:View:={V5 with role:=.fork c Wg (pB x deep i++[[rF x deep i]])};have KZ:Conc (E5.frame E5.fr) V6 (Hs++(dG x deep c++[.part 1 [iv i] 3])):=by
  refine cj.aj.bB.Aa (V':=V6) _ rfl (λ_ _ _ _ _ _ h=>h) (λg hg=> ?_) (λg hg=> ?_) (λhm=>by rw[cj.main]at hm;cases hm) cj.aj.bB.fr
  ·cases hg;exact⟨by show V5.own Wg≠none;rw[v1];simp,v2,v3⟩
  ·cases hg;exact⟨by show V5.own c≠none;rw[c1];simp,c2,c3⟩
 have oW:jP x deep Hs E c Wg rv dv fv (jT Hs Wg n i) [.part 1 [iv i] 3] E5 V6 (a5.put none undef):=⟨⟨KZ,cj.aj.tok,cj.aj.size⟩,cj.lo,cj.main,cj.defers,cj.deaf,cj.er,cj.ed,cj.ef,cj.dr,cj.dd,cj.df,cj.fr,cj.ne⟩;show WP true S_ none _ _ (a5.put none undef) V6;refine oW.to (jT Hs Wg n (i+1)) [.part 1 [iv i] 3] ?_ λE7 V7 a7 o1 Ec=> ?_
 ·unfold jT dG;have hw:Tg.wrap ((i:Int)+1)=(i:Int)+1:=a_ _ (by omega);refine ab ?_;simp only[seval,hw];exact dY (by simp only[seval];simp[bh,Wk.refl]) rfl
 have eI:=jP.cut (M:=[]) (T':=jT Hs Wg n (i+1)) Ec Bb (by
  unfold jT;simp only[VQ,T7,false_imp_iff,implies_true,and_true,look,ao_,if_false,if_true,Us,exists_eq_left',Wk.refl,true_and,dj,ado,VL];omega) aq
 refine hQ _ V7 a7 ⟨eI,?_,?_,?_⟩
 ·rw[o1.role,atu]
 ·show E7.fr c=_;rw[o1.le.fr];exact xf
 ·show E7.fr Wg=_;rw[o1.le.fr];exact DF
end
namespace Tk
def aei{hs:SO}{h:SD}(hn:hs.Nodup):(iZ hs h).Nodup:=by
 unfold iZ;split
 ·exact hn
 ·rename_i hm;rw[V_];exact⟨hn,by simp,λa ha b hb=>by rw[Ub.1 hb];exactλe=>hm (e▸ha)⟩
def aux{x:ak}{deep:Int}{Q:Kn}{t:SD}(hn:Q.aM.Nodup):(eg x deep Q t).aM.Nodup:=by
 have hB:(je Q t).aM.Nodup:=by unfold je;split<;>exact hn
 unfold eg;dsimp only;generalize je Q t=R at hB;split
 ·exact hB
 ·split
  ·exact aei hB
  ·exact hB
def avm{x:ak}{deep:Int}{bu:Nat}:(iw x deep bu).aM.Nodup:=by
 unfold iw;have key:∀(ts:SO)(Q:Kn),Q.aM.Nodup->(ts.foldl (eg x deep) Q).aM.Nodup:=by
  intro ts;induction ts with
  |nil=>exactλQ h=>h
  |cons t ts ih=>exactλQ h=>ih _ (aux h)
 exact key _ _ XM
def aa2:∀{l hs:SO},(∀y∈hs,y.length=4)->(∀y∈l,y.length=4)->∀y∈l.foldl iZ hs,y.length=4
 |[],hs,h1,_=>h1
 |a::l,hs,h1,h2=>by rw[VO];exact aa2 (aeg h1 (h2 a (by simp))) (λy hy=>h2 y (by simp[hy]))
def Jd{l m:SE}(h:l.length=m.length):(ld l m).length=l.length:=by simp[ld,h]
def Je{l m:SE}(h1:∀n∈l,n<65536)(h2:∀n∈m,n<65536):∀n∈ld l m,n<65536:=λn hn=>by
 unfold ld at hn;rw[VU]at hn;obtain⟨i,hi⟩:=hn;rw[List.getElem?_zipWith]at hi;cases ha:l[i]?with
 |none=>rw[ha]at hi;cases hi
 |some a=>
  cases hb:m[i]?with
  |none=>rw[ha,hb]at hi;cases hi
  |some b=>
   rw[ha,hb]at hi;cases hi;exact qw (h1 _ (T8 ha)) (h2 _ (T8 hb))
def acR{F G:Kn}{hs:SO}(hF:bP F)(hG:bP G)(hp:hs.Perm G.aM):bP (fW F hs G):=by
 unfold fW;split
 ·refine⟨(Jd (by rw[hF.ap,hG.ap])).trans hF.ap,(Jd (by rw[hF.hours,hG.hours])).trans hF.hours,(Jd (by rw[hF.less,hG.less])).trans hF.less,(Jd (by rw[hF.aY,hG.aY])).trans hF.aY,?_,Je hF.mU hG.mU,Je hF.mF hG.mF,Je hF.mm hG.mm,Je hF.mq hG.mq,aa2 hF.h4 λy hy=>hG.h4 y (hp.mem_iff.1 hy)⟩;split
  ·exact hG.first
  ·exact hF.first
 ·exact hF
inductive nH (x:ak)(deep:Int):List Nat->Kn->Prop where
 |nil:nH x deep [] Kn.zero
 |snoc {js:List Nat} {F:Kn} {j:Nat} {hs:List (List Int)} (h:nH x deep js F) (hp:hs.Perm (iw x deep j).aM):nH x deep (js++[j]) (fW F hs (iw x deep j))
end Tk
def wT.work{x:ak}{deep:Int}{j:Nat}(hA:wT x)(hx:x.Ok)(hj:j<=3):bP (iw x deep j):=QF hx (hA j hj)
def nB (x:ak)(deep:Int)(n:Nat)(js:SE):List (TJ):=(T1 n).map λk=>if k∈js then[]else[rF x deep k]
def atx(x:ak)(deep:Int)(n:Nat):nB x deep n []=pB x deep n:=by simp[nB,pB]
def atw{x:ak}{deep:Int}{n j:Nat}{js:SE}{sp:Spec}{S:TJ}(h:(nB x deep n js)[j]?=some (sp::S)):j<n/\j∉js/\sp=rF x deep j/\S=[]:=by
 unfold nB at h;rw[Ut]at h;obtain⟨k,h1,h2⟩:=Uv.1 h;have hk:j<n/\k=j:=by
  have:=Tq.1 h1;obtain⟨h3,h4⟩:=this;simp at h3 h4;exact⟨h3,h4.symm⟩
 obtain⟨h3,rfl⟩:=hk;split at h2
 ·cases h2
 ·rename_i hm;cases h2;exact⟨h3,hm,rfl,rfl⟩
def aty{x:ak}{deep:Int}{n j:Nat}{js:SE}:(nB x deep n js).set j []=nB x deep n (js++[j]):=by
 apply Zo;intro k;unfold nB;rw[VT,Ut,Ut,Ue,Y4];by_cases hk:k<n
 ·rw[av' hk];by_cases hj:j=k
  ·subst hj;rw[if_pos rfl,if_pos hk];simp
  ·rw[if_neg hj];have e:(k∈js++[j])<->k∈js:=by
    rw[Tv,Ub];exact⟨λh=>h.elim id λe=>absurd e.symm hj,.inl⟩
   simp only[VS,e]
 ·have e:(T1 n)[k]?=none:=Vy (by simp;omega);rw[e];by_cases hj:j=k
  ·subst hj;rw[if_pos rfl,if_neg hk];rfl
  ·rw[if_neg hj];rfl
def atv{x:ak}{deep:Int}{n:Nat}{js:SE}(h:∀S∈nB x deep n js,S=[]):∀k,k<n->k∈js:=λk hk=>by
 apply Uz;intro hn;have:=h [rF x deep k] (Uo.2 ⟨k,by simpa using hk,by rw[if_neg hn]⟩);cases this
def aoV{E:Env}{K:Kn}{mp b:Nat}(hb:E.blk mp=b)(hm:mp<E.n):au E (.agg (K.l mp)) (.agg (sS K b).toArray):=by
 subst hb;refine .agg (by simp[Kn.l,sS]) λi a e=> ?_
 match i with
 |0=>cases e;exact .val _
 |1=>cases e;exact .mp hm
 |i+2=>
  have e':(K.l mp)[i+2]?=((K.ap.map (λn:Nat=>Th .u16 n)++(K.hours.map (λn:Nat=>Th .u16 n)++(K.less.map (λn:Nat=>Th .u16 n)++(K.aY.map (λn:Nat=>Th .u16 n)++K.first.map (Th .i64))))).map AV.val)[i]?:=by
   simp[Kn.l,wv,iv,Zy]
  rw[e',Ut]at e;obtain⟨z,h1,rfl⟩:=Uv.1 e;have h2:(sS K (E.blk mp))[i+2]?=some z:=h1;rw[Ti,Wt,h2];exact .val _
def sT(K:Kn)(mp:Nat):∀a∈K.l mp,a.leaf=true:=λa ha=>by
 simp only[Kn.l,Tm,Tv,Uo]at ha;rcases ha with rfl|rfl|⟨_,_,rfl⟩|⟨_,_,rfl⟩|⟨_,_,rfl⟩|⟨_,_,rfl⟩|⟨_,_,rfl⟩<;>rfl
def ah1{lv:Bool}{P:Tl}{r:SL}{nt:Nat}{E:Env}{V:View}{a:Act}{s:AS}{c:U_}{Q:SJ}{α:Type}(p:α->Prop)(S3:α->AS)(aj:At E V s a nt)(h:aS lv P r nt c s (λe s'=>match e with|.normal=>∃q,p q/\s'.Sub (S3 q)|_=>False))(hQ:∀q E' V' a',p q->Kept E E' V V' a a'->At E' V' (S3 q) a' nt->Q .normal a' V'):WP lv P r c Q a V:=
 h E V a Q aj λae e E' V' a' s' hk aX he hΦ=>by
  cases ae<;>cases e<;>first
   |exact he.elim
   |exact hΦ.elim
   |(obtain⟨q,h1,h2⟩:=hΦ
     exact hQ q E' V' a' h1 hk (aX.sub h2))
def ajb{E:Env}(l:TE):au E (.agg (l.map .val)) (.agg l.toArray):=by
 refine .agg (by simp) λi a e=> ?_;rw[Ut]at e;obtain⟨z,h1,rfl⟩:=Uv.1 e;rw[Ti,Wt,h1];exact .val _
def QT:List Uf:=.bool false:: .map none::(UP 15 (.int .u16 0)++UP 11 (.int .i64 0))
def iP (Hs:SA)(F:Kn):SA:=[setH F.aM,.cells (F.l (Hs.length+5)) 88]
noncomputable def jK (Hs:SA):List (Nat×AV):=[(8,.op (Hs.length+6) 0),(5,.op (Hs.length+3) 0),(4,.op (Hs.length+2) 0)]
structure Gr (x:ak)(deep:Int)(n:Nat)(Hs:SA)(E:Env)(c Wg:Nat)(rv dv fv:Uf)(js:SE)(F:Kn)(T:List (Nat×AV))(G:SA)(E':Env)(V':View)(a':Act):Prop where
 ok:jP x deep Hs E c Wg rv dv fv T (iP Hs F++G) E' V' a'
 role:V'.role=.recv c Wg (nB x deep n js)
 acS:nH x deep js F
 kn:bP F
 nodup:js.Nodup
 lt:∀j∈js,j<n
noncomputable def acY:U_:=ci (ci (cs (cs (cs mS))))
def aoW{x:ak}{deep:Int}{Hs:SA}{c:Nat}{F:Kn}(hH:bJ Hs):bJ (Hs++(dG x deep c++iP Hs F)):=by
 refine acZ hH λz hz=> ?_;simp only[iP,Tm,T7,or_false]at hz;rcases hz with rfl|rfl
 ·trivial
 ·exact zK (by simp[iP])
def ap2{V:View}{Im:cG}{b:Nat}{K:Kn}{w:Uu}(hS:Sat V w)(hI:∀b o x,Im b o=some x->w.cell? ⟨b,o,none⟩=some x)(hb:w.heap[b]?=some (sR K)):∀o,V.ai b o=none/\Im b o=none:=λo=>by
 have hc:w.cell? ⟨b,o,none⟩=none:=by simp[VC,hb,sR]
 constructor
 ·cases h:V.ai b o with
  |none=>rfl
  |some v=>have:=hS.ai b o v h;rw[hc]at this;cases this
 ·cases h:Im b o with
  |none=>rfl
  |some v=>have:=hI b o v h;rw[hc]at this;cases this
section
variable {x:ak}{deep:Int}{n:Nat}{Hs:SA}{E:Env}{c Wg:Nat}{js:SE}{D:Kn}{rv dv fv:Uf}{T T':SH}{G G':SA}{E1 E2:Env}{V1 V2:View}{a1 a2:Act}
def aoY(hx:x.Ok)(hA:wT x)(hn4:n<=4)(Bb:E.n<=Hs.length)(bz:bJ Hs)(h:Gr x deep n Hs E c Wg rv dv fv js D (jK Hs) [] E1 V1 a1){Q:SJ}
  (hQ:∀j D' E2 V2 a2,j∉js->Gr x deep n Hs E c Wg rv dv fv (js++[j]) D' (jK Hs) [] E2 V2 a2->Q .normal a2 V2)
  (HD:∀E2 V2 a2 G,At E2 V2 ⟨[(4,.op (Hs.length+2) 0)],Hs++([.part 6 x.l 76,.part 1 [iv deep] 3,.cells (D.l (Hs.length+5)) 88,.part 1 [.val (.chan (some c))] 139,.gone,setH D.aM]++G)⟩ a2 35->E.Lo E2->a2.defers=[]->V2.deaf=0->V2.role=.plain->(∀b y,E.fr b=some y->E2.fr b=some y)->(∀k,k<n->k∈js)->Q .ret a2 V2):WP true S_ none acY Q a1 V1:=by
 refine wp_block (id:=3) (wp_seq ?_);refine JV (K:=λs'=>look s'.T 26=some (.val (.chan (some c)))/\s'.Sub ⟨jK Hs,Hs++(dG x deep c++(iP Hs D++[]))⟩) 1 7 rfl (by kernel_rfl) h.ok.aj ?_ λE3 V3 a3 s3 xE qT hK=> ?_
 ·unfold jK dG iP;(try simp only[seval]);exact dY (by simp only[seval];simp[bh,Wk.refl]) rfl
 obtain⟨l26,mh⟩:=hK;have cQ:=h.ok.step xE (qT.sub mh);have ro3:V3.role=.recv c Wg (nB x deep n js):=xE.role.trans h.role;have e26:a3.eval (.tmp 26)=.chan (some c):=vo (qT.tok 26 _ l26).2;obtain⟨ti,xN,hzi⟩:=Um.1 F.Q7;refine avr rfl rfl (.inr ?_);refine⟨rfl,c,Wg,nB x deep n js,.both,88,ti,_,e26,by kernel_rfl,xN,hzi,ro3,cQ.deaf,λj sp S v Im Ow r1 r2 r3 r4 r5=> ?_,λhS=> ?_⟩
 ·
  obtain⟨mI,gR,rfl,rfl⟩:=atw r1;obtain⟨b,hv,Mq⟩:=r2;have y_:bP (iw x deep j):=hA.work hx (by omega);have hWn:(iw x deep j).aM.Nodup:=avm;obtain⟨W,hW⟩:∃W,W=iw x deep j:=⟨_,rfl⟩;rw[<- hW]at hv Mq y_ hWn;let qG:View:={V3 with ai:=λb o=>match V3.ai b o with|some x=>some x|none=>Im b o,role:=.recv c Wg ((nB x deep n js).set j [])};obtain⟨ac3,Sb⟩:=cQ.aj.bB.apn (V':=qG) rfl (λb o v e=>by show (match V3.ai b o with|some x=>some x|none=>Im b o)=some v;rw[e]) (λb o hb e=>by
   show (match V3.ai b o with|some x=>some x|none=>Im b o)=none;rw[e];apply Uz;intro aF;exact absurd e (r4 b o hb aF)) rfl rfl (λhm=>by rw[cQ.main]at hm;cases hm)
  have Mp:Ow b=some (sR W):=by rw[Mq];simp
  obtain⟨w,hSw,hIw,N_⟩:=r5;have ik:=ap2 hSw hIw (N_ b _ Mp);have eW:V3.own b=none:=by
   apply Uz;intro aF;have:=r3 b aF;rw[Mp]at this;cases this
  have MY:qG.fresh b:=⟨eW,λo=>by
   show (match V3.ai b o with|some x=>some x|none=>Im b o)=none;rw[(ik o).1];exact(ik o).2⟩
  have anc:E3.n=Hs.length+7:=by rw[cQ.aj.bB.n];simp[dG,iP]
  have tT:=Sb.add MY (sR W) (x:=.obj (sR W)) ⟨by rw[Env.dZ];simp[View.upd],rfl,rfl,λo=>by rw[Env.dZ];exact MY.2 o⟩ (λb' e=>by
   simp only[bT,Env.dZ,Us]at e;exact e.symm)
  have hV4:qG.upd b (sR W)={V3 with ai:=λb o=>match V3.ai b o with|some x=>some x|none=>Im b o,own:=λb=>match V3.own b with|some x=>some x|none=>Ow b,role:=.recv c Wg ((nB x deep n js).set j [])}:=by
   have:(λb'=>if b'=b then some (sR W)else V3.own b')=λb=>match V3.own b with|some x=>some x|none=>Ow b:=by
    funext b';by_cases hb:b'=b
    ·subst hb;rw[if_pos rfl,eW,Mp]
    ·rw[if_neg hb];cases dO:V3.own b' with
     |some y=>rfl
     |none=>simp[Mq,hb]
   show View.mk _ _ _ _=View.mk _ _ _ _;congr 1
  have hEb:(({E3 with I:=qG.ai}:Env).add b qG.ai).blk (Hs.length+7)=b:=by rw[<- anc];exact Env.dZ ({E3 with I:=qG.ai}:Env) b _
  have OO:E3.Le (({E3 with I:=qG.ai}:Env).add b qG.ai):=ac3.trans (Env.ru _ b λ_ _ _ e=>e);have ank:(({E3 with I:=qG.ai}:Env).add b qG.ai).n=Hs.length+8:=by show E3.n+1=_;omega
  rw[hV4]at tT;generalize hE4:(({E3 with I:=qG.ai}:Env).add b qG.ai)=E4 at tT hEb OO ank;have bx:au E4 (.aL [.agg (W.l (Hs.length+7)),bv true]) (.tuple #[v,.bool true]):=by
   subst hv;refine .aL rfl λq a e=> ?_
   match q,e with
   |0,e=>cases e;exact aoV hEb (by omega)
   |1,e=>cases e;exact .val _
  have amg:Hs++(dG x deep c++(iP Hs D++[]))++[aa.obj (sR W)]=Hs++(dG x deep c++(iP Hs D++[setH W.aM])):=by simp[setH,sR]
  rw[amg]at tT;clear hV4 hE4 Sb ac3 MY;generalize abv:({V3 with ai:=λb o=>match V3.ai b o with|some x=>some x|none=>Im b o,own:=λb=>match V3.own b with|some x=>some x|none=>Ow b,role:=.recv c Wg ((nB x deep n js).set j [])}:View)=V4 at tT;have Ju:V4.role=.recv c Wg (nB x deep n (js++[j])):=by rw[<- abv];show nJ.recv c Wg _=_;rw[aty]
  have de4:V4.deaf=V3.deaf:=by rw[<- abv]
  have so:At E4 V4 ⟨(27,.aL [.agg (W.l (Hs.length+7)),bv true])::jK Hs,Hs++(dG x deep c++(iP Hs D++[setH W.aM]))⟩ (a3.put (some 27) (.tuple #[v,.bool true])) 35:=⟨tT,(cQ.aj.tok.mono OO).put (by rw[cQ.aj.size];omega) bx,(eF a3 (some 27) _).trans cQ.aj.size⟩;have jV:jP x deep Hs E c Wg rv dv fv ((27,.aL [.agg (W.l (Hs.length+7)),bv true])::jK Hs) (iP Hs D++[setH W.aM]) E4 V4 (a3.put (some 27) (.tuple #[v,.bool true])):=
   cQ.JF OO (put_defers a3 _ _) de4 so
  have ub:=Kn.len y_ (Hs.length+7);refine QL ⟨(10,bv true)::(9,.op (Hs.length+8) 0)::jK Hs,Hs++(dG x deep c++(iP Hs D++[setH W.aM,.cells (W.l (Hs.length+7)) 88]))⟩ rfl (by kernel_rfl) so ?_ λE5 V5 a5 gU kE=> ?_
  ·unfold jK dG iP;(try simp only[seval,ub]);exact⟨sT _ _,dY (by simp only[seval];simp[bh,Wk.refl]) rfl⟩
  have cj:=jV.step gU kE;have FM:V5.role=.recv c Wg (nB x deep n (js++[j])):=gU.role.trans Ju;refine wp_seq (wp_seq ?_);refine cj.to ((31,bv false)::(9,.op (Hs.length+8) 0)::jK Hs) (iP Hs D++[setH W.aM,.cells (W.l (Hs.length+7)) 88]) ?_ λE6 V6 a6 Nj oW=> ?_
  ·unfold jK dG iP;refine ah ?_;exact dY (by simp only[seval];simp[bh,Wk.refl]) rfl
  refine QH oW.aj rfl ?_;refine wp_skip ?_;refine ah1 (λhs:List (SD)=>hs.Perm W.aM) (λhs=>⟨jK Hs,Hs++(dG x deep c++(iP Hs (fW D hs W)++[setH W.aM,.cells (W.l (Hs.length+7)) 88]))⟩) oW.aj ?_ λhs E7 V7 a7 NE o1 MD=> ?_
  ·unfold jK dG iP;refine ab ?_;simp only[seval,ub];rw[Tx (i:=28) (by omega)];refine aG (aj5 (fp:=Hs.length+6) (mp:=Hs.length+5) (mg:=Hs.length+7) h.kn y_ (by omega) (by omega) (by rw[aW];rfl) (by rw[aW];rfl) (by rw[aW];rfl) hWn ?_);intro hs hp;rw[dB,dB];(try simp only[seval]);exact⟨hs,hp,dY (by simp only[seval];simp[bh,Wk.refl]) rfl⟩
  have Ec:=oW.step o1 MD;have eI:=jP.cut (T':=jK Hs) Ec Bb (by
   unfold jK iP;simp only[VQ,T7,false_imp_iff,implies_true,and_true,look,ao_,if_false,if_true,Us,exists_eq_left',Wk.refl,true_and,ado,Ve,VL];omega) (aoW bz)
  have iN:nH x deep (js++[j]) (fW D hs W):=by
   rw[hW]at NE⊢;exact h.acS.snoc NE
  refine hQ j (fW D hs W) _ V7 a7 gR ⟨by rw[To];exact eI,?_,iN,acR h.kn y_ NE,?_,?_⟩
  ·rw[o1.role,Nj.role];exact FM
  ·rw[V_];exact⟨h.nodup,by simp,λa ha b hb=>by rw[Ub.1 hb];exactλe=>gR (e▸ha)⟩
  ·intro k hk;rcases Tv.1 hk with h'|h'
   ·exact h.lt k h'
   ·rw[Ub.1 h'];exact mI
 ·
  have eT:=atv hS;let V4:View:={V3 with role:=.plain};have tT:Conc (E3.frame E3.fr) V4 (Hs++(dG x deep c++(iP Hs D++[]))):=
   cQ.aj.bB.Aa (V':=V4) _ rfl (λ_ _ _ _ _ _ h=>h) (λg hg=>by cases hg) (λg hg=>by cases hg) (λhm=>by rw[cQ.main]at hm;cases hm) cQ.aj.bB.fr
  have bx:au E3 (.aL [.agg jb,bv false]) (.tuple #[.agg QT.toArray,.bool false]):=by
   refine .aL rfl λq a e=> ?_
   match q,e with
   |0,e=>cases e;exact ajb QT
   |1,e=>cases e;exact .val _
  have so:At E3 V4 ⟨(27,.aL [.agg jb,bv false])::jK Hs,Hs++(dG x deep c++(iP Hs D++[]))⟩ (a3.put (some 27) (.tuple #[.agg QT.toArray,.bool false])) 35:=⟨tT,cQ.aj.tok.put (by rw[cQ.aj.size];omega) bx,(eF a3 (some 27) _).trans cQ.aj.size⟩;have jV:=cQ.JF (V2:=V4) (Env.Le.refl E3) (put_defers a3 (some 27) _) rfl so;have nv:jb.length=28:=rfl;have eP:=Kn.len h.kn (Hs.length+5);refine QL ⟨(10,bv false)::jK Hs,Hs++(dG x deep c++(iP Hs D++[.cells jb 88]))⟩ rfl (by kernel_rfl) so ?_ λE5 V5 a5 gU kE=> ?_
  ·unfold jK dG iP;(try simp only[seval,nv]);exact⟨λa ha=>by simp only[jb,Tm,Tv,YL]at ha;rcases ha with rfl|rfl|⟨_,rfl⟩|⟨_,rfl⟩<;>rfl,dY (by simp only[seval];simp[bh,Wk.refl]) rfl⟩
  have cj:=jV.step gU kE;refine wp_seq (wp_seq ?_);refine cj.to ((31,bv true)::jK Hs) (iP Hs D++[.cells jb 88]) ?_ λE6 V6 a6 Nj oW=> ?_
  ·unfold jK dG iP;refine ah ?_;exact dY (by simp only[seval];simp[bh,Wk.refl]) rfl
  refine QH oW.aj rfl ?_;refine wp_seq ?_;refine AK ⟨[(4,.op (Hs.length+2) 0)],Hs++([.part 6 x.l 76,.part 1 [iv deep] 3,.cells (D.l (Hs.length+5)) 88,.part 1 [.val (.chan (some c))] 139,.gone,setH D.aM]++[.cells (D.l (Hs.length+5)) 88,.cells jb 88])⟩ oW.aj ?_ λE7 V7 a7 o1 MD=> ?_
  ·unfold jK dG iP;refine ab ?_;simp only[seval,eP,nv];rw[Tx (i:=28) (l:=D.l (Hs.length+5)) (by omega)];exact⟨eP,by omega,sT _ _,dY (by simp only[seval];simp[bh,Wk.refl]) (by rw[eP,U2 (by rw[nv];exact Ts _),To])⟩
  refine wp_ret ?_;exact HD E7 V7 a7 _ MD (oW.lo.trans o1.le.lo) (o1.defers.trans oW.defers) (o1.deaf.trans oW.deaf) (o1.role.trans (Nj.role.trans gU.role)) (λb y e=>by rw[o1.le.fr];exact(oW.fr b y e).1) eT
end
open Go.Conc Go.Proofs Go.Gg.Tk
def asu{P:Tl}{rs:SW}{fn:ZD}{nt:Nat}{k kp:SF}{E E':Env}{V V':View}{H L G:SA}{T:SH}{a':Act}{av:AV}(hr:fn.results=rs.toArray)(aj:At E' V' ⟨T,H.map strip++(L++G)⟩ a' nt)(p7:E.Lo E')(hc:Conc E V H)(cy:V'.role=V.role)(fz:V'.deaf=V.deaf)(hf:∀b y,E.fr b=some y->E'.fr b=some y)
  (gV:iH P ⟨T,H.map strip++(L++G)⟩ rs=some [av]) (hL:L.map strip=L) (aq:bJ (H.map strip++L)) (hlt:Lt (H.length+L.length) av) (hk:k av (H++L)):∃v,aU P V' (results fn a'.tmps) (λx aV=>x=v/\aV=V') (λ_ _=>False)/\iA E V k kp (.ret v) V':=by
 obtain⟨vs,hl,mj,zw⟩:=Js aj rs [av] gV;obtain⟨v,rfl⟩:∃v,vs=[v]:=List.length_eq_one_iff.1 hl;have bx:au E' av v:=mj 0 av rfl;have rj:aU P V' (results fn a'.tmps) (λx aV=>x=v/\aV=V') (λ_ _=>False):=by
  unfold results;rw[hr,Y3];refine aA ?_;refine aA (zw ?_);refine ay (ay ⟨?_,rfl⟩);simp
 have MP:=aj.bB;dsimp only at MP;rw[<- Te]at MP;have eI:=MP.trim (H:=H.map strip++L) (G:=G) aq;have hlen:(H.map strip++L).length=H.length+L.length:=by simp
 rw[hlen]at eI;have o6:(H++L).map strip=H.map strip++L:=by rw[Uq,hL]
 rw[<- o6]at eI;refine⟨v,rj,av,((({E' with n:=H.length+L.length}:Env).fL E.main).frame E.fr),H++L,?_,cy,fz,?_,eI.asl E.main E.fr (λk e=> ?_) (λe=>by rw[cy,fz];exact hc.top e) hf,hk⟩
 ·refine Env.Lo.le (E':={E' with n:=H.length+L.length}) ⟨p7.I,?_,p7.blk,p7.fZ,p7.room⟩;show E.n<=H.length+L.length;rw[hc.n];omega
 ·exact((bx.trim hlt).fL E.main).frame E.fr
 ·by_cases Et:k<H.length
  ·rw[T4 Et]at e;exact hc.obj k _ e
  ·rw[Ud (by omega)]at e;have h2:(L.map strip)[k-H.length]?=some .gone:=(by rw[Ut,e];rfl);rw[hL,e]at h2;cases h2
section
variable {x:ak}{deep:Int}{Hs:SA}{E:Env}{c Wg p:Nat}{rv dv fv:Uf}{T:SH}{E1:Env}{V1:View}{a1:Act}
def aoZ(hx:x.Ok)(hA:wT x)(hp:x.am=p)(Bb:E.n<=Hs.length)(bz:bJ Hs)(h:wP x deep Hs E c Wg rv dv fv 0 [(6,.val (pW Wg 0)),(5,.op (Hs.length+3) 0),(4,.op (Hs.length+2) 0),(3,.op (Hs.length+1) 0),(2,.op Hs.length 0)] [] E1 V1 a1){Q:SJ}
  (hQ:∀js D E2 V2 a2 G,js.Perm (T1 (p+1))->nH x deep js D->bP D->At E2 V2 ⟨[(4,.op (Hs.length+2) 0)],Hs++([.part 6 x.l 76,.part 1 [iv deep] 3,.cells (D.l (Hs.length+5)) 88,.part 1 [.val (.chan (some c))] 139,.gone,setH D.aM]++G)⟩ a2 35->E.Lo E2->a2.defers=[]->V2.deaf=0->V2.role=.plain->(∀b y,E.fr b=some y->E2.fr b=some y)->Q .ret a2 V2):WP true S_ none mS Q a1 V1:=by
 have hp3:p<=3:=by have:=hx.am;omega
 have anw:bJ (Hs++(dG x deep c++[])):=acZ bz (by simp);refine wp_seq (x:=cf mS) (wp_seq (x:=cf (cf mS)) ?_);refine h.ok.to (jT Hs Wg ((p+1:Nat):Int) 0) [] ?_ λE2 V2 a2 cp bZ=> ?_
 ·show aS true S_ none 35 (cf (cf mS)) _ _;unfold jT dG;have hw:Tg.wrap (x.am+1)=((p+1:Nat):Int):=by rw[hp,a_ _ (by omega)];rfl
  refine ab ?_;simp only[seval,TO,hw];exact dY (by simp only[seval];simp[bh,Wk.refl]) rfl
 have h2:wP x deep Hs E c Wg rv dv fv 0 (jT Hs Wg ((p+1:Nat):Int) 0) [] E2 V2 a2:=h.step cp bZ;refine wp_block (id:=0) (c:=.loop (ci (ci (cs (cf mS))))) ?_;refine wp_loop (λm a' V'=>∃E' i,m=p+1-i/\i<=p+1/\wP x deep Hs E c Wg rv dv fv i (jT Hs Wg ((p+1:Nat):Int) i) [] E' V' a') (p+1) ⟨E2,0,rfl,by omega,h2⟩ λm a3 V3 hI=> ?_;obtain⟨E3,i,rfl,hi,h3⟩:=hI;refine wp_seq (x:=cf (ci (ci (cs (cf mS))))) (y:=cs (ci (ci (cs (cf mS))))) ?_;refine h3.ok.to ((17,bv (decide ((i:Int)<((p+1:Nat):Int))))::jT Hs Wg ((p+1:Nat):Int) i) [] ?_ λE4 V4 a4 sB jV=> ?_
 ·show aS true S_ none 35 (cf (ci (ci (cs (cf mS))))) _ _;unfold jT dG;refine ah ?_;exact dY (by simp only[seval];simp[bh,Wk.refl]) rfl
 have sg:=h3.step sB jV;refine wp_seq (x:=.cond (.tmp 17) .skip (.exit 0)) (y:=cs (cs (ci (ci (cs (cf mS)))))) (QH jV.aj rfl ?_);by_cases hik:i<p+1
 ·rw[show decide ((i:Int)<((p+1:Nat):Int))=true from decide_eq_true (by omega)];refine wp_skip ?_;have amr:jP x deep Hs E c Wg rv dv fv (jT Hs Wg ((p+1:Nat):Int) i) [] E4 V4 a4:=jV.JF (Env.Le.refl E4) rfl rfl (jV.aj.sub (dY (by unfold jT dG;simp only[seval];simp[bh,Wk.refl]) rfl));exact aoX hx hA Bb anw ⟨amr,sg.role,sg.Hk,sg.DE⟩ (by omega) rfl λE5 V5 a5 h5=>⟨p+1-(i+1),by omega,E5,i+1,rfl,by omega,h5⟩
 have dK:i=p+1:=by omega
 subst dK;rw[show decide (((p+1:Nat):Int)<((p+1:Nat):Int))=false by simp];refine wp_exit ?_;refine wp_seq (x:=cf (cs mS)) (y:=cs (cs mS)) ?_;refine JV (K:=λs'=>look s'.T 22=some (.fn (.func 100) [] [.val (pW Wg 0),.op (Hs.length+3) 0])/\s'.Sub ⟨[(5,.op (Hs.length+3) 0),(4,.op (Hs.length+2) 0)],Hs++(dG x deep c++[])⟩) 1 1 rfl (by kernel_rfl) jV.aj ?_ λE5 V5 a5 s5 gU kE hK=> ?_
 ·unfold jT dG;(try simp only[seval,Vb,VH,Vk,UX]);exact dY (by simp only[seval];simp[bh,Wk.refl]) rfl
 obtain⟨OJ,mh⟩:=hK;have cj:=jV.step gU (kE.sub mh);have FM:V5.role=.fork c Wg (pB x deep (p+1)):=gU.role.trans sg.role;have xf:E5.fr c=some tR:=by rw[gU.le.fr];exact sg.Hk
 have DF:E5.fr Wg=some (wgBlock S_ (((p+1:Nat):Int)* 4294967296) 0):=by rw[gU.le.fr];exact sg.DE
 obtain⟨c1,c2,c3⟩:=cj.aj.bB.fr c _ xf;obtain⟨v1,v2,v3⟩:=cj.aj.bB.fr Wg _ DF;have e22:a5.eval (.tmp 22)=.func (.func 100) #[] #[pW Wg 0,fv]:=by
  obtain⟨fa,ca,q1,q2,q3⟩:=So (kE.tok 22 _ OJ).2;rw[G0 q2]at q1;refine q1.trans ?_;have ft:ca.size=2:=q3.1;have k0:=vo (q3.2 0 _ rfl);have k1:=Ds (q3.2 1 _ rfl);rw[<- cj.ef]at k1;congr 1;refine Array.ext ft λj h1 h2=> ?_;have hj:j=0\/j=1:=by omega
  rw[Ti,Tn (by omega)]at k0 k1;rcases hj with rfl|rfl
  ·exact k0
  ·exact k1
 have hfc:V5.ai (E5.blk (Hs.length+3)) 0=some (.chan (some c)):=by
  have bI:=cj.df;rw[cj.ef]at bI;generalize hp:(Value.pointer (some ⟨E5.blk (Hs.length+3),0,none⟩))=pv at bI;cases bI with
  |rp b o f h1 h2=>
   cases hp;have:=h1 0 (by simp);rw[cj.aj.bB.I]at this;rw[VA]at this;rw[this,vo (h2 0 _ rfl)]
 refine QK rfl rfl ?_;refine⟨rfl,.tmp 22,100,#[],_,rfl,e22,cj.deaf,.inr ⟨c,Wg,_,FM,cj.ne,c1,?_,c2,v2,?_,?_⟩⟩
 ·rw[v1,Qf]
 ·have:=aiU Wg (E5.blk (Hs.length+3)) c (Im:=V5.ai) hfc;rw[cj.ef];simpa[pW]using this
 let V6:View:={V5 with own:=λb=>if b=c\/b=Wg then none else V5.own b,role:=.recv c Wg (pB x deep (p+1))};let f6:Nat->Option Obj:=λb=>if b=c\/b=Wg then none else E5.fr b;have KZ:Conc (E5.frame f6) V6 (Hs++(dG x deep c++[])):=by
  refine cj.aj.bB.Aa (V':=V6) _ rfl (λb z k w hk kT hz=> ?_) (λg hg=>by cases hg) (λg hg=>by cases hg) (λhm=>by rw[cj.main]at hm;cases hm) (λb y hb=> ?_)
  ·have n1:b≠c:=cj.aj.bB.FB xf hk kT;have n2:b≠Wg:=cj.aj.bB.FB DF hk kT;show (if b=c\/b=Wg then none else V5.own b)=some z;rw[if_neg (λe=>e.elim n1 n2)];exact hz
  ·by_cases Bn:b=c\/b=Wg
   ·simp only[f6,if_pos Bn]at hb;cases hb
   ·simp only[f6,if_neg Bn]at hb;obtain⟨q1,q2,q3⟩:=cj.aj.bB.fr b y hb;refine⟨?_,q2,q3⟩;show (if b=c\/b=Wg then none else V5.own b)=some y;rw[if_neg Bn];exact q1
 have oW:jP x deep Hs E c Wg rv dv fv [(5,.op (Hs.length+3) 0),(4,.op (Hs.length+2) 0)] [] (E5.frame f6) V6 (a5.put none undef):=by
  refine⟨⟨KZ,cj.aj.tok.frame _,cj.aj.size⟩,cj.lo.trans (Env.IS E5 f6),cj.main,cj.defers,cj.deaf,cj.er,cj.ed,cj.ef,cj.dr.frame f6,cj.dd.frame f6,cj.df.frame f6,λb y e=> ?_,cj.ne⟩;obtain⟨q1,q2,q3⟩:=cj.fr b y e;refine⟨?_,q2,q3⟩;show (if b=c\/b=Wg then none else E5.fr b)=some y;rw[if_neg (λe=>e.elim q2 q3)];exact q1
 show WP true S_ none (.seq (cf (cs (cs mS))) (cs (cs (cs mS)))) Q (a5.put none undef) V6;refine wp_seq ?_;refine oW.to (jK Hs) (iP Hs Kn.zero) ?_ λE7 V7 a7 o1 Ec=> ?_
 ·show aS true S_ none 35 (cf (cs (cs mS))) _ _;unfold jK dG iP;refine ah ?_;exact dY (by simp only[seval];simp[bh,Wk.refl]) rfl
 refine wp_block (id:=2) (c:=.loop acY) ?_;have ce:Gr x deep (p+1) Hs E c Wg rv dv fv [] Kn.zero (jK Hs) [] E7 V7 a7:=⟨by rw[To];exact Ec,by rw[o1.role,atx],.nil,Fh,XM,λj hj=>by cases hj⟩;refine wp_loop (λm a' V'=>∃E' js D,m=p+1-js.length/\Gr x deep (p+1) Hs E c Wg rv dv fv js D (jK Hs) [] E' V' a') _ ⟨E7,[],Kn.zero,rfl,ce⟩ λm a8 V8 hI=> ?_;obtain⟨E8,js,D,rfl,h8⟩:=hI;have hlen:∀js:SE,js.Nodup->(∀j∈js,j<p+1)->js.length<=p+1:=λjs hn hl=>by
  have:=hn.length_le_of_subset (l₂:=T1 (p+1)) λj hj=>by simpa using hl j hj
  simpa using this
 refine aoY hx hA (by omega) Bb bz h8 (λj D' E9 V9 a9 hj h9=> ?_) λE9 V9 a9 G amj OV La K0 PV yT eT=> ?_
 ·have h1:=hlen _ h9.nodup h9.lt;simp only[Tt,UJ]at h1;exact⟨p+1-(js++[j]).length,by simp;omega,E9,js++[j],D',rfl,h9⟩
 ·have NG:js.Perm (T1 (p+1)):=by
   refine(List.perm_ext_iff_of_nodup h8.nodup Y1).2 λk=> ?_;rw[UN];exact⟨h8.lt k,eT k⟩
  exact hQ js D E9 V9 a9 G NG h8.acS h8.kn amj OV La K0 PV yT
end
def akZ{x:ak}{deep:Int}{p:Nat}{H:SA}{k kp:SF}(hx:x.Ok)(hA:wT x)(hp:x.am=p)(hm:H[0]?=some .main)(hk:∀js D L,js.Perm (T1 (p+1))->nH x deep js D->bP D->L.length=5->k (.agg (D.l (H.length+5))) (H++(L++[setH D.aM]))):ba true S_ 77 H [x.av,iv deep] k kp:=by
 intro E V vs hc hd;have hEm:E.main=true:=hc.obj 0 _ hm;obtain⟨jF,vK⟩:=hc.top hEm;have hn:E.n=H.length:=hc.n;refine RP (by simp) F.f77 rfl ?_;have ue:At (E.fL false) V ⟨[(0,x.av),(1,iv deep)],H.map strip⟩ {tmps:=vs++UT (YN.ntmps-vs.size) undef,defers:=[]} 35:=by
  have:=Di (nt:=35) hc hd (by simp);exact⟨hc.ai7,this.tok.fL false,this.size⟩
 have hlen:(H.map strip).length=H.length:=Ue _;have NA:bJ (H.map strip):=ue.bB.aq
 suffices p8:∀Hs,H.map strip=Hs->WP true S_ none wm (Ends S_ YN (iA E V k kp)) {tmps:=vs++UT (YN.ntmps-vs.size) undef,defers:=[]} V from p8 _ rfl
 intro Hs bz;rw[bz]at ue hlen NA;have aby:({tmps:=vs++UT (YN.ntmps-vs.size) undef,defers:=[]}:Act).defers=[]:=rfl;generalize({tmps:=vs++UT (YN.ntmps-vs.size) undef,defers:=[]}:Act)=a0 at ue aby;refine wp_seq (x:=cf wm) (y:=cs wm) ?_;refine AK ⟨[(4,.op (Hs.length+2) 0),(3,.op (Hs.length+1) 0),(2,.op Hs.length 0)],Hs++[.cells x.l 76,.cells [iv deep] 3,.cells jb 88]⟩ ue ?_ λE2 V2 a2 cp vG=> ?_
 ·show aS true S_ none 35 (cf wm) _ _;simp only[ak.av];refine ah ?_;exact dY (by simp only[seval];simp[bh,Wk.refl]) rfl
 obtain⟨ti,xN⟩:∃i,S_.info? 88=some i:=Option.isSome_iff_exists.1 (by kernel_rfl);refine wp_seq (x:=cf (cs wm)) (y:=cs (cs wm)) (af7 rfl rfl (aqR rfl (d:=.both) (el:=88) (by kernel_rfl) xN λc xw=> ?_));let f3:Nat->Option Obj:=λb=>if b=c then some tR else E2.fr b;have qT:At (E2.frame f3) (V2.upd c tR) ⟨[(11,.val (.chan (some c))),(4,.op (Hs.length+2) 0),(3,.op (Hs.length+1) 0),(2,.op Hs.length 0)],Hs++[.cells x.l 76,.cells [iv deep] 3,.cells jb 88]⟩ (a2.put (some 11) (.chan (some c))) 35:=
  ⟨vG.bB.alK xw tR,(vG.tok.frame _).put (by rw[vG.size];omega) (.val _),(eF a2 (some 11) _).trans vG.size⟩
 refine QL ⟨[(5,.op (Hs.length+3) 0),(4,.op (Hs.length+2) 0),(3,.op (Hs.length+1) 0),(2,.op Hs.length 0)],Hs++[.cells x.l 76,.cells [iv deep] 3,.cells jb 88,.cells [.val (.chan (some c))] 139]⟩ rfl (by kernel_rfl) qT ?_ λE4 V4 a4 sB so=> ?_
 ·(try simp only[seval,aq6,avD,ao8]);exact dY (by simp only[seval];simp[bh,Wk.refl]) rfl
 refine wp_seq (x:=cf (cs (cs wm))) (y:=mS) ?_;refine AK ⟨[(6,.op (Hs.length+4) 0),(5,.op (Hs.length+3) 0),(4,.op (Hs.length+2) 0),(3,.op (Hs.length+1) 0),(2,.op Hs.length 0)],Hs++[.cells x.l 76,.cells [iv deep] 3,.cells jb 88,.cells [.val (.chan (some c))] 139,.cells [.val (.int .u64 0),.val (.int .u32 0)] 147]⟩ so ?_ λE5 V5 a5 gU kE=> ?_
 ·show aS true S_ none 35 (cf (cs (cs wm))) _ _;refine ah ?_;exact dY (by simp only[seval];simp[bh,Wk.refl]) rfl
 obtain⟨wcs,zH,hwo,v9,Ef⟩:=kE.bB.alL (id:=Hs.length+4) (aW _ _ 4);have aon:=St (l:=[.int .u64 0,.int .u32 0]) zH;subst aon;rw[dB]at Ef;simp only[VI,U7]at Ef;have e6v:=kE.avf (t:=6) (id:=Hs.length+4) (off:=0) rfl;have fr5:E5.fr=f3:=gU.le.fr.trans sB.le.fr;have xf:E5.fr c=some tR:=by rw[fr5];simp[f3]
 have aF:c≠E5.blk (Hs.length+4):=λe=>kE.bB.FB xf (aW Hs _ 4) rfl e.symm;have frE:∀b y,E.fr b=some y->E5.fr b=some y/\b≠c/\b≠E5.blk (Hs.length+4):=λb y hb=>by
  have h2:E2.fr b=some y:=by rw[cp.le.fr];exact hb
  have Bn:b≠c:=λe=>by subst e;have:=(vG.bB.fr b y h2).1;rw[xw.1]at this;cases this
  have h5:E5.fr b=some y:=by rw[fr5];simp[f3,Bn,h2]
  exact⟨h5,Bn,λe=>kE.bB.FB h5 (aW Hs _ 4) rfl e.symm⟩
 generalize Bh:E5.blk (Hs.length+4)=Wg at hwo v9 Ef e6v aF frE;let f6:Nat->Option Obj:=λb'=>if b'=Wg then some (wgBlock S_ 0 0)else E5.fr b';have abH:Conc (E5.frame f6) V5 (Hs++[.cells x.l 76,.cells [iv deep] 3,.cells jb 88,.cells [.val (.chan (some c))] 139,.gone]):=by
  have:(λb'=>if b'=Wg then some (Obj.cells #[.int .u64 0,.int .u32 0] 147 (0,0))else E5.fr b')=f6:=by
   funext b';simp only[f6,wgBlock,wgT]
  rw[<- this];exact Ef
 have D7:At (E5.frame f6) V5 ⟨[(6,.val (pW Wg 0)),(5,.op (Hs.length+3) 0),(4,.op (Hs.length+2) 0),(3,.op (Hs.length+1) 0),(2,.op Hs.length 0)],Hs++[.cells x.l 76,.cells [iv deep] 3,.cells jb 88,.cells [.val (.chan (some c))] 139,.gone]⟩ a5 35:=by
  refine⟨abH,λt av e=> ?_,kE.size⟩;by_cases ht:t=6
  ·subst ht;cases e;refine⟨by rw[kE.size];omega,?_⟩;have:a5.tmps.getD 6 undef=pW Wg 0:=e6v;rw[this];exact .val _
  ·refine(kE.tok.frame f6) t av ?_;simp only[look]at e⊢;rw[if_neg (Ne.symm ht)]at e⊢;exact e
 clear Ef abH;have lo6:E.Lo (E5.frame f6):=((((E.apG false).trans cp.le.lo).trans (Env.IS E2 f3)).trans (sB.le.lo.trans gU.le.lo)).trans (Env.IS E5 f6);have O4:(E5.frame f6).main=false:=gU.le.main.trans (sB.le.main.trans cp.le.main);have ai4:a5.defers=[]:=gU.defers.trans (sB.defers.trans ((put_defers a2 _ _).trans (cp.defers.trans aby)));have ro6:V5.role=.plain:=gU.role.trans (sB.role.trans (cp.role.trans jF));have de6:V5.deaf=0:=gU.deaf.trans (sB.deaf.trans (cp.deaf.trans vK));have L6:(E5.frame f6).fr c=some tR:=by show f6 c=_;simp only[f6,if_neg aF];exact xf
 have L7:(E5.frame f6).fr Wg=some (wgBlock S_ 0 0):=by show f6 Wg=_;simp[f6]
 have abe:∀b y,E.fr b=some y->(E5.frame f6).fr b=some y/\b≠c/\b≠Wg:=λb y hb=>by
  obtain⟨q1,q2,q3⟩:=frE b y hb;refine⟨?_,q2,q3⟩;show f6 b=_;simp only[f6,if_neg q3];exact q1
 generalize E5.frame f6=E6 at D7 lo6 O4 L6 L7 abe;obtain⟨V7,g7,o7,r7,d7,xS,GW,Sl⟩:=D7.bB.Jp (id:=Hs.length) (aW _ _ 0) 6 (by simp[TO]);rw[show Hs.length=Hs.length+0 from rfl,dB]at GW;simp only[U7]at GW;have afB:=D7.tok.mono xS;generalize hE7:({E6 with I:=V7.ai}:Env)=E7 at xS GW Sl afB;obtain⟨V8,g8,o8,r8,d8,wn,GX,Sm⟩:=GW.Jp (id:=Hs.length+1) (aW _ _ 1) 1 (by simp);rw[dB]at GX;simp only[VI,U7]at GX;have afC:=afB.mono wn;generalize hE8:({E7 with I:=V8.ai}:Env)=E8 at wn GX Sm afC;obtain⟨V9,g9,o9,r9,d9,wq,yL,K3⟩:=GX.Jp (id:=Hs.length+3) (aW _ _ 3) 1 (by simp);rw[dB]at yL;simp only[VI,U7]at yL;have afD:=afC.mono wq;generalize hE9:({E8 with I:=V9.ai}:Env)=E9 at wq yL K3 afD;refine WP.ghost g7 (WP.ghost g8 (WP.ghost g9 ?_));have OV:E.Lo E9:=lo6.trans ((xS.trans wn).trans wq).lo;have PV:V9.role=.plain:=r9.trans (r8.trans (r7.trans ro6));have K0:V9.deaf=0:=d9.trans (d8.trans (d7.trans de6));have yT:E9.fr=E6.fr:=wq.fr.trans (wn.fr.trans xS.fr);have n6:E6.n=Hs.length+5:=by rw[D7.bB.n];simp
 have b7:∀k,k<Hs.length+5->E9.blk k=E6.blk k/\E9.blk k=E7.blk k/\E9.blk k=E8.blk k:=λk hk=>by
  have n7:=xS.n;have n8:=wn.n;have q7:=xS.blk k (by omega);have q8:=wn.blk k (by omega);have q9:=wq.blk k (by omega);exact⟨by rw[q9,q8,q7],by rw[q9,q8],q9⟩
 obtain⟨c1,c2,c3⟩:=yL.fr c tR (by rw[yT];exact L6);obtain⟨v1,v2,v3⟩:=yL.fr Wg _ (by rw[yT];exact L7);refine avq (c:=c) (Wg:=Wg) rfl PV aF c1 (by rw[v1];simp) v2 ?_;let Kr:View:={V9 with role:=.fork c Wg []};have aiV:Conc (E9.frame E9.fr) Kr (Hs++(dG x deep c++[])):=by
  refine yL.Aa (V':=Kr) _ rfl (λ_ _ _ _ _ _ h=>h) (λg hg=> ?_) (λg hg=> ?_) (λhm=>by rw[wq.main,wn.main,xS.main,O4]at hm;cases hm) yL.fr
  ·cases hg;exact⟨by show V9.own Wg≠none;rw[v1];simp,v2,v3⟩
  ·cases hg;exact⟨by show V9.own c≠none;rw[c1];simp,c2,c3⟩
 have dr9:au E9 (.rp x.l) (.pointer (some ⟨E9.blk Hs.length,0,none⟩)):=by
  have h7:=(Sl.mono wn).mono wq;rw[<- (b7 Hs.length (by omega)).1]at h7;rwa[Tx (by simp[TO])]at h7
 have dd9:au E9 (.rp [iv deep]) (.pointer (some ⟨E9.blk (Hs.length+1),0,none⟩)):=by
  have h8:=Sm.mono wq;rw[<- (b7 (Hs.length+1) (by omega)).2.1]at h8;exact h8
 have La:au E9 (.rp [.val (.chan (some c))]) (.pointer (some ⟨E9.blk (Hs.length+3),0,none⟩)):=by
  rw[<- (b7 (Hs.length+3) (by omega)).2.2]at K3;exact K3
 have Nv:jP x deep Hs E c Wg (.pointer (some ⟨E9.blk Hs.length,0,none⟩)) (.pointer (some ⟨E9.blk (Hs.length+1),0,none⟩)) (.pointer (some ⟨E9.blk (Hs.length+3),0,none⟩)) [(6,.val (pW Wg 0)),(5,.op (Hs.length+3) 0),(4,.op (Hs.length+2) 0),(3,.op (Hs.length+1) 0),(2,.op Hs.length 0)] [] E9 Kr a5:=
  ⟨⟨aiV,afD,D7.size⟩,OV,wq.main.trans (wn.main.trans (xS.main.trans O4)),ai4,K0,rfl,rfl,rfl,dr9,dd9,La,λb y hb=>by rw[yT];exact abe b y hb,aF⟩
 refine aoZ hx hA hp (by omega) NA ⟨Nv,rfl,by rw[yT];exact L6,by rw[yT];exact L7⟩ λjs D E11 V11 a11 G NG iN di abA apF ai3 ai0 asw alJ=> ?_;subst bz;have eP:=Kn.len di (H.length+5);let L5:SA:=[.part 6 x.l 76,.part 1 [iv deep] 3,.cells (D.l (H.length+5)) 88,.part 1 [.val (.chan (some c))] 139,.gone];rw[hlen]at abA;refine⟨ai3,asu (P:=S_) (rs:=[.cell 4 88]) (H:=H) (L:=L5++[setH D.aM]) (G:=G) (T:=[(4,.op (H.length+2) 0)]) (av:=.agg (D.l (H.length+5))) rfl abA apF hc (asw.trans jF.symm) (ai0.trans vK.symm) alJ ?_ rfl ?_ ?_ (hk js D L5 NG iN di rfl)⟩
 ·have hg:(H.map strip++(L5++[setH D.aM]++G))[H.length+2]?=some (.cells (D.l (H.length+5)) 88):=by
   have:=aW (H.map strip) (L5++[setH D.aM]++G) 2;rw[hlen]at this;exact this
  have aH:VN 28 (D.l (H.length+5))=D.l (H.length+5):=Tx (by omega);generalize hLG:H.map strip++(L5++[setH D.aM]++G)=LG at hg;try simp only[seval,iH,wA,hg,eP,aH,aa.cellsOf]
 ·have hl:H.length=(H.map strip).length:=hlen.symm;intro y hy;have anb:(H.map strip++(L5++[setH D.aM])).length=H.length+6:=by simp[L5]
  rw[anb];rcases Tv.1 hy with h|h
  ·exact(NA y h).mono (by omega)
  ·simp only[L5,Tm,Tv,T7,or_false]at h;rcases h with(rfl|rfl|rfl|rfl|rfl)|rfl
   ·exactλa ha=>IW x _ a ha
   ·intro a ha;simp at ha;subst ha;exact .val _
   ·exact zK (by omega)
   ·intro a ha;simp at ha;subst ha;exact .val _
   ·trivial
   ·trivial
 ·refine .agg λa ha=> ?_;exact zK (by simp[L5]) a ha
namespace Tk
def ab0{x:ak}{bu:Nat}(h0:0<=x.first)(h90:x.first<=90)(hp:0<=x.am/\x.am<=3):∀(d:Nat)(pre:SD),pre.length+d<=4->pre.head?=some x.first->(∀a∈pre,x.first<=a/\a<=x.first+3* (pre.length-1:Nat))->∀h∈nq x bu d pre,h.length=4/\h.head?=some x.first/\∀a∈h,x.first<=a/\a<=x.first+9
 |0,pre,hl,hh,ha,h,hm=>by
  unfold nq at hm;split at hm
  ·rw[Ub]at hm;subst hm;have aF:pre≠[]:=λe=>(by rw[e]at hh;cases hh);have cR:0<pre.length:=Wp.2 aF;have vV:pre.getLastD 0∈pre:=by
    rw[WB,YP aF];exact ak' aF
   refine⟨by simp[cM];omega,by rw[cM,XQ,hh];rfl,λa hm=> ?_⟩;have Ew:a∈pre:=by
    rcases Tv.1 hm with h|h
    ·exact h
    ·rw[(YL.1 h).2];exact vV
   have:=ha a Ew;omega
  ·cases hm
 |d+1,pre,hl,hh,ha,h,hm=>by
  unfold nq at hm;split at hm
  ·obtain⟨n,hn,hm⟩:=T9.1 hm;have jm:n<x.am.toNat+1:=(by simpa using hn);split at hm
   ·cases hm
   ·have aF:pre≠[]:=λe=>(by rw[e]at hh;cases hh);have cR:0<pre.length:=Wp.2 aF;have vV:pre.getLastD 0∈pre:=by
     rw[WB,YP aF];exact ak' aF
    refine ab0 h0 h90 hp d _ (by simp;omega) (by rw[XQ,hh];rfl) (λa Ew=> ?_) h hm;rw[Tt,UJ];rcases Tv.1 Ew with h'|h'
    ·have:=ha a h';omega
    ·rw[Ub]at h';subst h';have:=ha _ vV;omega
  ·cases hm
def abV{x:ak}{bu:Nat}(hx:x.Ok){h:SD}(hm:h∈kU x bu):jO h:=by
 have hf:=hx.first;have hh:=hx.hours;have hp:=hx.am;obtain⟨h1,h2,h3⟩:=ab0 (bu:=bu) hf.1 hf.2 ⟨by omega,hp.2⟩ x.hours.toNat [x.first] (by simp;omega) rfl (λa ha=>by rw[Ub]at ha;subst ha;simp) h hm;refine⟨h1,λa ha=>by have:=h3 a ha;omega,λa ha=>by have:=h3 a ha;omega,?_⟩
 match h,h1,h2,h3 with
 |[a,b,c,d],_,h2,h3=>
  have ha:a=x.first:=by simpa using h2
  have:=h3 d (by simp);simp;omega
def adU:∀{qs:SE}{u:Nat}{t ns:SE},ns∈lc qs u t->∃l,ns=t++l/\l.length=qs.length/\∀(i n q:Nat),l[i]?=some n->qs[i]?=some q->n<9/\q.testBit n=true
 |[],u,t,ns,h=>by
  simp only[lc,Ub]at h;exact⟨[],by simp[h],rfl,λi n q h1=>by cases h1⟩
 |q::qs,u,t,ns,h=>by
  simp only[lc,T9]at h;obtain⟨n,hn,h⟩:=h;split at h
  ·cases h
  ·rename_i hc;obtain⟨l,h1,h2,h3⟩:=adU h;refine⟨n::l,by rw[h1];simp,by simp[h2],λi m q' h4 h5=> ?_⟩
   match i with
   |0=>
    cases h4;cases h5;refine⟨by simpa using hn,?_⟩;simp at hc;exact hc.2
   |i+1=>exact h3 i m q' h4 h5
def ad2{k:Nat}{ns:SE}:∀{qs:SE}{u:Nat}{t os:SE},os∈mV k ns qs u t->∃l,os=t++l/\l.length=qs.length/\∀n∈l,n<k
 |[],u,t,os,h=>by
  simp only[mV,Ub]at h;exact⟨[],by simp[h],rfl,λn h1=>by cases h1⟩
 |q::qs,u,t,os,h=>by
  simp only[mV,T9]at h;obtain⟨n,hn,h⟩:=h;split at h
  ·cases h
  ·obtain⟨l,h1,h2,h3⟩:=ad2 h;refine⟨n::l,by rw[h1];simp,by simp[h2],λm hm=> ?_⟩;rcases Tm.1 hm with rfl|hm
   ·simpa using hn
   ·exact h3 m hm
def Qp:∀{h:SD}{i:Nat}{n a:Int},h.head?=some a->a<=n->n<h.getLastD 0->0<=fM i h n
 |[],i,n,a,h1,_,_=>by cases h1
 |[b],i,n,a,h1,h2,h3=>by
  simp at h1 h3;omega
 |b::c::l,i,n,a,h1,h2,h3=>by
  have:b=a:=by simpa using h1
  subst this;unfold fM;split
  ·omega
  ·rename_i hc;exact Qp (a:=c) rfl (by omega) (by simpa[WB]using h3)
def auV{x:ak}{h:SD}{ns os:SE}(hx:x.Ok)(hh:jO h)(hn:ns∈gE x h)(ho:os∈iR x h ns):jd x (dq h ns os):=by
 obtain⟨l,e1,e2,e3⟩:=adU hn;simp only[VK]at e1;subst e1;obtain⟨m,g1,g2,g3⟩:=ad2 ho;simp only[VK]at g1;subst g1;rw[Ue]at e2 g2;have h4:=hh.len;have Ic:=hx.dQ;have qb:=hx.dC;have ER:(dq h ns os).take 4=h:=by
  unfold dq;rw[Te,UA (by omega),Tx (by omega)]
 have cr:(lg 4 ns).length=4:=Cg (by omega);have hg:∀p,p<ns.length->(dq h ns os)[4+p]?=(ns[p]?).map λn:Nat=>(n:Int):=λp hp=>by
  unfold dq;rw[Te,Ud (by omega),T4 (by omega),h4,US];unfold lg;rw[T4 (by simpa using hp),Ut]
 refine⟨by simp[dq,h4,cr,Cg (k:=3) (l:=os) (by omega)],by rw[ER];exact hh,λp hp=> ?_,λs hs=> ?_⟩
 ·obtain⟨n,EB⟩:=bA (xs:=ns) (i:=p) (by omega);obtain⟨y,hy⟩:=bA hp;obtain⟨q1,q2⟩:=e3 p n (cx h y) EB (by rw[Ut,hy];rfl);refine⟨n,by rw[hg p (by omega),EB];rfl,q1,?_⟩;rw[ER];unfold cx at q2;rw[Dk]at q2;simp only[Uh,lZ,decide_eq_true_eq]at q2;obtain⟨a,b,c,d,rfl,_⟩:=hh.out;have e0:(dq [a,b,c,d] ns os).getD 0 0=a:=rfl;rw[e0];have:=q2.2.1.1;simp at this;exact Qp (a:=a) rfl (by omega) (by simp;omega)
 ·obtain⟨o,NC⟩:=bA (xs:=os) (i:=s) (by omega);refine⟨o,?_,by have:=g3 o (T8 NC);omega⟩;unfold dq;rw[Ud (by simp[h4,cr]),show (h++lg 4 ns).length=8 by simp[h4,cr],US];unfold lg;rw[T4 (by have:=e_ NC;simpa using this),Ut,NC];rfl
end Tk
def CC{x:ak}(hx:x.Ok):wT x:=λbu _ h hm=>by
 have hh:=abV hx hm;refine⟨hh,λns iW a ha=> ?_⟩;obtain⟨os,h1,rfl⟩:=Uo.1 ha;exact auV hx hh iW h1
open Go.Conc
section
variable {lv:Bool}{P:Tl}{s:AS}{ms:SE}{bs:S5}{nt:Nat}
def alw{f:UW}{fn:ZD}{c0 c1 c2:U_}{rs:SW}{H:SA}{args:SC}{k kp:SF}(hf:P.funcs[f]?=some fn)(hb:fn.body=some (.seq c0 (.seq c1 c2)))(hr:fn.results=rs.toArray)(hn:fn.ntmps=nt)(cS:args.length<=nt)
  (h:bJ H->(∀a∈args,Lt H.length a)->aS lv P none nt c0 ⟨bm 0 args,H⟩ λe s0=>e=.normal/\CL lv P nt c1 s0 [] (λe s' nU=>e=.normal/\∃c,nU=[c]/\∀bs,kL lv P nt bs c2 s' [] (AC lv P rs H.length c k kp))):ba lv P f H args k kp:=by
 intro E V vs hc hd;have hlt:∀a∈args,Lt H.length a:=λa ha=>by
  obtain⟨i,hi⟩:=qq ha;rw[<- hc.n];exact(hd.2 i a hi).lt
 have aj:=Di (nt:=nt) hc hd cS;refine aiD (by simp) hf hb ?_;rw[hn];refine wp_seq (h hc.aq hlt E V _ _ aj λae e E0 V0 a0 s0 vT ue he0 hΦ0=> ?_);obtain⟨rfl,zG⟩:=hΦ0;cases e<;>first
  |exact he0.elim
  |skip
 have amK:a0.defers=[]:=vT.defers;refine wp_seq (zG E0 V0 a0 _ ue (by rw[amK];trivial) λae e E1 V1 a1 s1 ds1 am8 xo cm Ej hΦ1=> ?_);obtain⟨rfl,c,rfl,hw⟩:=hΦ1;have gT:=vT.d.trans am8;cases e<;>first
  |exact Ej.elim
  |skip
 obtain⟨d,jB,bx⟩:∃d,a1.defers=[d]/\Aw E1 c d:=by
  match jB:a1.defers,cm with
  |[d],cm=>exact⟨d,rfl,cm.1⟩
  |[],cm=>exact cm.elim
  |_::_::_,cm=>exact cm.2.elim
 refine hw [d] E1 V1 a1 _ xo ⟨by simp[jB],by simp⟩ λae e E' V' a' s' cJ hk aX gD he hΦ=> ?_;have hle:E.Le E':=gT.le.trans hk.le;have fin:∀(md:Wo)(m:Option AV)(H':SA),(md matches .run)=false->jh cJ s'.H=some H'->QY E' m md->rJ lv P c H' m (λH'=>ao (iH P ⟨s'.T,H'⟩ rs) λl=>cz H.length H' (jq l) k) (λH'=>∀pv,m=some pv->cz H.length H' pv kp)->vb lv P fn (iA E V k kp) a'.defers md a'.tmps V':=by
  intro md m H' qZ hg ab8 hD;refine afT qZ cJ _ H' E' V' _ hg aX.bB gD λV2 r1 r2 bZ=> ?_;have amH:=bx.mono hk.le;refine⟨qZ,.inr ⟨?_,?_⟩⟩
  ·obtain⟨f,first,cZ,fa,ca,vs,h1,rfl,h3,h4,h5⟩:=bx;exact⟨_,_,rfl⟩
  ·refine(hD E' V2 d md bZ amH ab8).mono (λnx aV hx=> ?_) λ_ _ h=>h;obtain⟨g,args,rfl,DU⟩:=hx;refine⟨g,args,rfl,DU.mono λoD V3 hx=> ?_⟩;obtain⟨E3,H3,q1,q2,q3,q4,q5|q5⟩:=hx
   ·obtain⟨rfl,q5⟩:=q5;exact aes (s':=⟨s'.T,H3⟩) (a':=a') hr ⟨q4,aX.tok.mono q1,aX.size⟩ (hle.trans q1) hc.n (q2.trans (r1.trans (hk.role.trans gT.role))) (q3.trans (r2.trans (hk.deaf.trans gT.deaf))) q5
   ·obtain⟨rfl,o6,q5⟩:=q5;cases m with
    |none=>cases o6
    |some pv=>
     obtain⟨v,rfl,lK⟩:=ab8;obtain⟨b,bY,u5,t1,t2,t3,t4⟩:=yN (q5 pv rfl) q4 (lK.mono q1) (hle.trans q1) hc.n;exact⟨b,v,bY,u5,rfl,t1,q2.trans (r1.trans (hk.role.trans gT.role)),q3.trans (r2.trans (hk.deaf.trans gT.deaf)),t2,t3,t4⟩
 have aln:AC lv P rs H.length c k kp .ret s' cJ->vb lv P fn (iA E V k kp) a'.defers .returning a'.tmps V':=λhΦ=>by
  obtain⟨H',hg,hΦ⟩:=ao.out hΦ;refine fin .returning none H' rfl hg rfl λE2 V2 d2 O6 c1 c2 c3=> ?_;refine(hΦ E2 V2 d2 O6 c1 c2 c3).mono (λnx aV hx=> ?_) λ_ _ h=>h;obtain⟨g,args,rfl,DU⟩:=hx;refine⟨g,args,rfl,DU.mono λoD V3 hx=> ?_⟩;obtain⟨E3,H3,q1,q2,q3,q4,q5|q5⟩:=hx
  ·exact⟨E3,H3,q1,q2,q3,q4,.inl q5⟩
  ·exact q5.2.2.elim
 cases ae<;>cases e<;>first
  |exact he.elim
  |exact aln hΦ
  |exact hΦ.elim
  |skip
 rename_i pv ch;obtain⟨v,fy,amI⟩:∃v,ch=[{v,recovered:=false}]/\au E' pv v:=he;subst fy;obtain⟨H',hg,hΦ⟩:=ao.out hΦ;refine fin _ (some pv) H' rfl hg ⟨v,rfl,amI⟩ λE2 V2 d2 O6 c1 c2 c3=> ?_;refine(hΦ E2 V2 d2 O6 c1 c2 c3).mono (λnx aV hx=> ?_) λ_ _ h=>h;obtain⟨g,args,rfl,DU⟩:=hx;refine⟨g,args,rfl,DU.mono λoD V3 hx=> ?_⟩;obtain⟨E3,H3,q1,q2,q3,q4,q5|q5⟩:=hx
 ·exact⟨E3,H3,q1,q2,q3,q4,.inl q5⟩
 ·exact⟨E3,H3,q1,q2,q3,q4,.inr ⟨q5.1,q5.2.1,λpv' e=>by cases e;exact q5.2.2⟩⟩
end
open Go.Proofs Go.Gg.Tk
namespace Tk
def w9 (x:ak):Bool:=(T1 (x.am.toNat+1)).any λbu=>(kU x bu).any λh=> !(jL x 0 h).isEmpty
end Tk
def ww:AV:=.da 136 (.agg [])
section
variable {lv:Bool}{H:SA}{kr kp:SA->Prop}
def ak8{r:Nat}(h:∀L,kr (H++L)):rJ lv S_ (.fn (.func 95) [] [.op r 0],[]) H none kr kp:=by
 refine Sj (nt:=9) (by kernel_rfl) F.f95 rfl rfl rfl rfl rfl rfl rfl rfl (by kernel_rfl) (by simp) ?_;simp only[bm,Tu,VK,WA];(try simp only[seval,F.Ov]);refine eK (a:=[]) rfl ⟨rfl,by decide,by simp,?_⟩;refine ah ?_;refine aB ?_;refine ahZ ?_;exact .inl (h _)
def ak9{r:Nat}{a:AV}(hr:H[r]?=some (.cells [a] 4))(h:∀L,kr (H.set r (.cells [bv true] 4)++L)):rJ lv S_ (.fn (.func 95) [] [.op r 0],[]) H (some ww) kr kp:=by
 refine Sj (nt:=9) (by kernel_rfl) F.f95 rfl rfl rfl rfl rfl rfl rfl rfl (by kernel_rfl) (by simp) ?_;simp only[bm,Tu,VK,Ua,ww];(try simp only[seval,F.Ov]);have uv:=e_ hr;have zy:∀L:SA,(H++L)[r]?=some (.cells [a] 4):=λL=>fH hr;refine ah ?_;refine aB ?_;refine ab ?_;simp only[seval,zy,wE uv];exact .inl (h _)
end
def rZ (x:ak)(m:Lp)(h:SD):dM Lp:=if(jL x 0 h).isEmpty then .go .ready else .bad .busy
def RX{x:ak}:∀(l:SO),bM (rZ x) l .ready=if l.any (λh=> !(jL x 0 h).isEmpty)=true then .bad .busy else .go .ready
 |[]=>by simp[bM]
 |h::l=>by
  have ih:=RX (x:=x) l;by_cases he:(jL x 0 h).isEmpty=true
  ·have e1:rZ x .ready h=.go .ready:=(by unfold rZ;rw[if_pos he]);rw[bM,e1];dsimp only;rw[ih];simp only[ZT,he,af',Y_]
  ·have e1:rZ x .ready h=.bad .busy:=(by unfold rZ;rw[if_neg he]);rw[bM,e1];dsimp only;have e2:(jL x 0 h).isEmpty=false:=(by simpa using he);simp only[ZT,e2,Yt,Z1,if_true]
def aid(l:SO):bM (λ(_:Lp) (_:SD)=>(.bad .busy:dM Lp)) l .ready=if l.isEmpty then .go .ready else .bad .busy:=by
 cases l<;>rfl
def Dp (x:ak)(i:Nat):SA:=[.cells x.l 76,.cells [iv i] 3,.obj (.deferred (some [])),.gone]
def kP (x:ak)(H:SA):Nat->SA
 |0=>H++[.cells x.l 76,.cells [bv false] 4]
 |i+1=>kP x H i++Dp x i
def yJ (H:SA):Nat->SE
 |0=>[]
 |i+1=>(H.length+2+4* i+2)::yJ H i
def KS(x:ak)(H:SA):∀i,(kP x H i).length=H.length+2+4* i
 |0=>by simp[kP]
 |i+1=>by simp[kP,Dp,KS x H i];omega
def RV(x:ak)(H:SA):∀i,∃Y,kP x H i=H++[.cells x.l 76,.cells [bv false] 4]++Y
 |0=>⟨[],by simp[kP]⟩
 |i+1=>by
  obtain⟨Y,h⟩:=RV x H i;exact⟨Y++Dp x i,by rw[kP,h,Te]⟩
def KR(x:ak)(H:SA):∀(i:Nat)(L:SA),∃Y,jh (yJ H i) (kP x H i++L)=some (H++[.cells x.l 76,.cells [bv false] 4]++Y)
 |0,L=>⟨L,by rw[yJ,A9,kP]⟩
 |i+1,L=>by
  have hl:=KS x H i;have e:(kP x H (i+1)++L)=kP x H i++(Dp x i++L):=by rw[kP,Te]
  have hg:(kP x H i++(Dp x i++L))[H.length+2+4* i+2]?=some (.obj (.deferred (some []))):=by rw[<- hl,aW];rfl
  obtain⟨Y,hY⟩:=KR x H i ([.cells x.l 76,.cells [iv i] 3,.gone,.gone]++L);refine⟨Y,?_⟩;rw[yJ,e,A8 hg,<- hl,dB];exact hY
def RU(x:ak)(H:SA)(i:Nat)(L:SA):(kP x H i++L)[H.length]?=some (.cells x.l 76)/\(kP x H i++L)[H.length+1]?=some (.cells [bv false] 4):=by
 obtain⟨Y,h⟩:=RV x H i;rw[h,Te,Te];exact⟨aW H _ 0,aW H _ 1⟩
section
variable {lv:Bool}
def alC{P:Tl}(rs:SW)(n:Nat)(c:AV×SC)(k kp:SF)(pv:AV)(s:AS)(ms:SE):AC lv P rs n c k kp (.panic pv) s ms=ao (jh ms s.H) λH'=>rJ lv P c H' (some pv) (λH'=>ao (iH P ⟨s.T,H'⟩ rs) λl=>cz n H' (jq l) k) (λH'=>cz n H' pv kp):=by rw[AC]
def alD{P:Tl}(rs:SW)(n:Nat)(c:AV×SC)(k kp:SF)(s:AS)(ms:SE):AC lv P rs n c k kp .ret s ms=ao (jh ms s.H) λH'=>rJ lv P c H' none (λH'=>ao (iH P ⟨s.T,H'⟩ rs) λl=>cz n H' (jq l) k) (λ_=>False):=by rw[AC]
def akV{H:SA}{k kp:SF}{x:ak}(hx:x.Ok)(hk:k (bv (w9 x)) H):ba lv S_ 71 H [x.av] k kp:=by
 refine alw (rs:=[.cell 2 4]) (nt:=24) F.f71 rfl rfl rfl (by simp) λhH hA=> ?_;simp only[bm,Tu,ak.av];have Md:=CC hx;have hp:=hx.am;obtain⟨p,fU⟩:∃p:Nat,x.am=p:=⟨x.am.toNat,by omega⟩;have hw:Tg.wrap (x.am+1)=((p+1:Nat):Int):=by rw[fU,a_ _ (by omega)];rfl
 refine ab ?_;simp only[seval,F.Q6];refine RB (n:=1) rfl rfl rfl rfl rfl rfl (by kernel_rfl) ?_;(try simp only[seval,Vb,VH,Vk,UX]);refine⟨⟨_,_,_,rfl⟩,_,rfl,λbs=> ?_⟩;refine GL ?_;refine tO ?_;refine ab ?_;simp only[seval,TP,TO,hw];refine yG ?_;refine RD (measure λi=>p+1-i).wf (λi:Nat=>⟨[(10,iv i),(9,iv ((p+1:Nat):Int)),(2,.op (H.length+1) 0),(1,.op H.length 0)],kP x H i⟩) (λi=>yJ H i) (λi=>i<=p+1/\∀j,j<i->∀h∈kU x j,(jL x 0 h).isEmpty=true) 0 (dY (by simp only[seval];simp[bh,Wk.refl]) rfl) rfl ⟨by omega,λj hj=>by omega⟩ λi aq=> ?_;obtain⟨o0,fS⟩:=aq;have cT:=KS x H i;have nj:=λL=>(RU x H i L).1;have sq:=λL=>(RU x H i L).2;obtain⟨N,hN⟩:∃N,N=H.length+2+4* i:=⟨_,rfl⟩;rw[<- hN]at cT;have hbx:(kP x H i)[H.length]?=some (.cells x.l 76):=by have:=nj [];rwa[To]at this
 refine tO ?_;refine ah ?_;refine tO ?_;refine aB ?_;refine⟨λh=> ?_,λh=> ?_⟩
 ·
  have qV:i<=3:=by omega
  refine aE ?_;refine GL ?_;refine yG ?_;refine tO ?_;refine ah ?_;refine tO ?_;refine ab ?_;simp only[seval,hbx,TO];refine aG (LD (x:=x) (n:=i) ?_);rw[cT];(try simp only[seval]);refine yG ?_;refine KH (by rfl) λl fn T ag bo hT zb n5=> ?_;have lI:(kP x H i++[aa.cells x.l 76,aa.cells [iv i] 3]).length=N+2:=by rw[Tt,cT];rfl
  (try simp only[seval]);rw[cT];obtain⟨B,hB⟩:∃B,B=kP x H i:=⟨_,rfl⟩;rw[<- hB]at cT hbx nj sq⊢;have bg:∀(L:SA)(j:Nat),(B++L)[N+j]?=L[j]?:=λL j=>by rw[<- cT,aW]
  have GU:∀(L:SA)(j:Nat)(y:aa),(B++L).set (N+j) y=B++L.set j y:=λL j y=>by rw[<- cT,dB]
  have abJ:∀(M:SA)(lp:Lp),bJ (B++([aa.cells x.l 76,.cells [iv i] 3,.obj (.deferred (some [])),.loop l .ready none fn T 24 #[16] ag bo (N+2)]++M))->bJ (B++([aa.cells x.l 76,.cells [iv i] 3,.obj (.deferred (some [])),.loop l lp.st lp.pe fn T 24 #[16] ag bo (N+2)]++M)):=λM lp iM z hz=>by
   have hlen:(B++([aa.cells x.l 76,.cells [iv i] 3,.obj (.deferred (some [])),.loop l lp.st lp.pe fn T 24 #[16] ag bo (N+2)]++M)).length=(B++([aa.cells x.l 76,.cells [iv i] 3,.obj (.deferred (some [])),.loop l .ready none fn T 24 #[16] ag bo (N+2)]++M)).length:=(by simp);have hl:=iM (.loop l .ready none fn T 24 #[16] ag bo (N+2)) (by simp);rw[hlen];rcases Tv.1 hz with h'|h'
   ·exact iM z (Ul _ h')
   ·rcases Tv.1 h' with h'|h'
    ·simp only[Tm,T7,or_false]at h';rcases h' with rfl|rfl|rfl|rfl
     ·exact iM _ (by simp)
     ·exact iM _ (by simp)
     ·exact iM _ (by simp)
     ·exact hl
    ·exact iM z (T_ _ (T_ _ h'))
  have hY:j6 lv S_ (.fn (.yield l) [] []) (rZ x) (λlp:Lp=>B++[.cells x.l 76,.cells [iv i] 3,.obj (.deferred (some [])),.loop l lp.st lp.pe fn T 24 #[16] ag bo (N+2)]) (N+4) (λlp=>lp=.ready) (λh=>jO h/\∀ns∈gE x h,∀a∈(iR x h ns).map (dq h ns),jd x a) ww:=by
   refine⟨λlp h M k kp iE ha dR=> ?_,λlp h Ft iE ha he=> ?_,λlp=>by simp[cT],λm lp Ft hz z fD=> ?_,rfl,rfl,rfl⟩
   ·replace iE:lp=.ready:=iE;subst iE;obtain⟨oZ,ES⟩:=ha;have h4:=oZ.len;have nY:(h.map iv).length=4:=(by rw[Ue,h4]);obtain⟨Lo,lC⟩:∃Lo,Lo=aa.loop l .busy none fn T 24 #[16] ag bo (N+2):=⟨_,rfl⟩;obtain⟨P1,dI⟩:∃P1:SA,P1=B++([.cells x.l 76,.cells [iv i] 3,.obj (.deferred (some [])),Lo]++M):=⟨_,rfl⟩;have eS:P1.length=N+4+M.length:=(by rw[dI];simp[cT];omega);have pg3:∀(L:SA),(P1++L)[N+3]?=some Lo:=λL=>(by rw[dI,Te,bg];rfl);have px:∀(L:SA),(P1++L)[H.length]?=some (.cells x.l 76):=λL=>(by rw[dI,Te];exact nj _);have pb:∀(L:SA)(j:Nat),(P1++L)[N+4+M.length+j]?=L[j]?:=λL j=>(by rw[<- eS,aW]);have x7:∀(L:SA),(P1++L)[N+4+M.length]?=L[0]?:=λL=>pb L 0;have qx:∀(L:SA)(y:aa),(P1++L).set (N+4+M.length+4) y=P1++L.set 4 y:=λL y=>(by rw[<- eS,dB]);have s3:∀(L:SA) y,(P1++L).set (N+3) y=B++([.cells x.l 76,.cells [iv i] 3,.obj (.deferred (some [])),y]++M)++L:=λL y=>by
     rw[dI,Te,GU];simp
    subst hT zb n5;rw[Te];refine w8 (id:=N+3) (by rw[bg];rfl) rfl (by kernel_rfl) λoR Me=> ?_;simp only[tz];have xy:U4 4 [iv 0,iv 0,iv 0,iv 0]=[]:=rfl;refine ab ?_;simp only[seval,h4,xy];unfold va;refine⟨none,fn,_,24,#[16],_,_,_,by rw[bg];rfl,?_⟩;dsimp only;rw[GU];simp only[VI,U7];rw[<- lC];have yZ:B.length+(M.length+1+1+1+1)=N+4+M.length:=(by rw[cT];omega);rw[yZ];have zm:∀z:aa,(B++aa.cells x.l 76::aa.cells [AV.val (Th Tg ↑i)] 3::aa.obj (ayj (some []))::Lo::(M++[z]))=P1++[z]:=λz=>(by rw[dI];simp[iv]);rw[zm];refine ab ?_;simp only[seval,px,TO,x7,h4,nY];rw[Tx (i:=4) (l:=h.map iv) (by rw[nY];exact Ts _)];refine aG (LF (x:=x) (h:=h) (deep:=0) ?_);(try simp only[seval]);refine bF ?_;refine GJ (N+3) (by rfl) (by show (P1++_)[N+3]?=_;rw[pg3,lC]) λl2 fq T2 h_ ie oS zd zf=> ?_;simp only[seval];rw[eS];have za:j6 lv S_ (.fn (.yield l2) [] []) (λ(_:Lp) (_:SD)=>(.bad .busy:dM Lp)) (λlp:Lp=>P1++[.cells (h.map iv) 83,.cells x.l 76,.cells (h.map iv) 83,.cells [iv 0] 3,.loop l2 lp.st lp.pe fq T2 24 #[20] h_ ie (N+2)]) (N+4+M.length+5) (λlp=>lp=.ready) (λa=>a.length=11) ww:=by
     refine⟨λlp t M2 k2 zL iE ht lH=> ?_,λlp t Ft iE ht he=>(by cases he),λlp=>by simp[eS],λq lp Ft hz z fD=> ?_,rfl,rfl,rfl⟩
     ·replace iE:lp=.ready:=iE;subst iE;simp only[db]at lH;have mu:∀(L:SA),(P1++L)[N+4+M.length+4]?=L[4]?:=λL=>pb L 4;subst oS zd zf;rw[Te];refine w8 (id:=N+4+M.length+4) (by rw[mu];rfl) rfl (by kernel_rfl) λsh Mf=> ?_;simp only[tz];refine aE ?_;unfold va;refine⟨none,fq,_,24,#[20],_,_,_,by rw[mu];rfl,?_⟩;dsimp only;rw[qx];simp only[VI,U7];refine ab ?_;simp only[seval,F.Ov];show cz _ (P1++_) _ zL;rw[Te]at lH;exact b8 lH
     ·rcases Tv.1 fD with h'|h'
      ·exact hz z (Ul _ h')
      ·have hl:=hz _ (T_ _ (T8 (i:=4) rfl));simp only[Tm,T7,or_false]at h';rcases h' with rfl|rfl|rfl|rfl|rfl
       ·exact hz _ (T_ _ (by simp))
       ·exact hz _ (T_ _ (by simp))
       ·exact hz _ (T_ _ (by simp))
       ·exact hz _ (T_ _ (by simp))
       ·exact hl
    rw[eS]at oS;have H9:∀n,Lt n ww:=λn=>(by simp[ww,adn,qp]);refine cP (LK (x:=x) (h:=h) (deep:=0) (ir:=N+4+M.length+1) (ih:=N+4+M.length+1+1) (id:=N+4+M.length+1+2) (σ:=Lp.ready) hx oZ za (λlp L=> ?_) (λlp L=> ?_) (λlp L=> ?_) H9 rfl (λa ha=>ha) (λns iW a ha=>(ES ns iW a ha).len) ?_)
    ·rw[Te];exact pb _ 1
    ·rw[Te];exact pb _ 2
    ·rw[Te];exact pb _ 3
    rw[aid];have mu:∀(L:SA),(P1++L)[N+4+M.length+4]?=L[4]?:=λL=>pb L 4;by_cases uh:(jL x 0 h).isEmpty=true
    ·rw[if_pos uh];have e1:rZ x .ready h=.go .ready:=(by unfold rZ;rw[if_pos uh]);rw[e1]at dR;simp only[db]at dR;simp only[gG,To];refine⟨.ready,none,_,_,_,_,_,_,_,by rw[mu];rfl,by decide,?_⟩;rw[qx,Jn];(try simp only[seval]);show pH _ _ _ _ _ _ _;refine⟨l,.busy,none,fn,_,24,#[16],_,_,N+2,by show (P1++_)[_]?=_;rw[pg3,lC],?_⟩;show cz (N+4+M.length) ((P1++_).set _ _) _ k;rw[s3];rw[Te]at dR;exact jS (G:=[.cells (h.map iv) 83,.cells x.l 76,.cells (h.map iv) 83,.cells [iv 0] 3,.gone]) (Wk.refl _) (by simp[iv];exact⟨rfl,rfl⟩) (by simp[cT];omega) (abJ M .ready oR) (.val _) dR
    ·rw[if_neg uh];have e1:rZ x .ready h=.bad .busy:=(by unfold rZ;rw[if_neg uh]);rw[e1]at dR;simp only[db]at dR;simp only[gG,To];show cz (N+4+M.length) (P1++_) ww kp;rw[Te]at dR;refine jS (H':=B++([aa.cells x.l 76,.cells [iv i] 3,.obj (.deferred (some [])),.loop l Lp.busy.st Lp.busy.pe fn _ 24 #[16] _ _ (N+2)]++M)) (Wk.refl _) (by rw[dI,lC];rfl) (by simp[cT];omega) (abJ M .busy oR) (H9 _) dR
   ·replace iE:lp=.ready:=iE;subst iE;unfold rZ at he;split at he
    ·cases he;rfl
    ·cases he
   ·rcases Tv.1 fD with h'|h'
    ·exact hz z (Ul _ h')
    ·have hl:=hz _ (T_ _ (T8 (i:=3) rfl));simp only[Tm,T7,or_false]at h';rcases h' with rfl|rfl|rfl|rfl
     ·exact hz _ (T_ _ (by simp))
     ·exact hz _ (T_ _ (by simp))
     ·exact hz _ (T_ _ (by simp))
     ·exact hl
  have H9:∀n,Lt n ww:=λn=>by simp[ww,adn,qp]
  refine cP (LI (x:=x) (bu:=i) (ir:=N) (it:=N+1) (σ:=Lp.ready) hx hY (λlp L=> ?_) (λlp L=> ?_) qV H9 rfl (λa ha=>Md i qV a ha) ?_)
  ·rw[Te];exact bg _ 0
  ·rw[Te];exact bg _ 1
  rw[RX];have bK:=TN i (by omega)
  by_cases HG:(kU x i).any (λh=> !(jL x 0 h).isEmpty)=true
  ·rw[if_pos HG];have ML:w9 x=true:=by
    unfold w9;rw[U5];exact⟨i,by rw[UN];omega,HG⟩
   rw[ML]at hk;simp only[gG,To];(try simp only[seval,alC]);obtain⟨Y,xn⟩:=KR x H i [.cells x.l 76,.cells [iv i] 3,.gone,.loop l .busy none fn T 24 #[16] ag bo (N+2)];rw[<- hB]at xn;have hgo:jh ((N+2)::yJ H i) (B++[.cells x.l 76,.cells [iv i] 3,.obj (.deferred (some [])),.loop l Lp.busy.st Lp.busy.pe fn T 24 #[16] ag bo (N+2)])=some (H++[.cells x.l 76,.cells [bv false] 4]++Y):=by
    rw[A8 (by rw[bg];rfl),GU];exact xn
   refine eK hgo ?_;have dE:(H++[aa.cells x.l 76,.cells [bv false] 4]++Y)[H.length+1]?=some (.cells [bv false] 4):=(by rw[Te];exact aW H _ 1);refine ak9 dE λL=> ?_;have bZ:((H++[aa.cells x.l 76,.cells [bv false] 4]++Y).set (H.length+1) (.cells [bv true] 4)++L)[H.length+1]?=some (.cells [bv true] 4):=by
    rw[Te,dB,Te];exact aW H _ 1
   (try simp only[seval,iH,wA,bZ,aa.cellsOf]);exact jg hH hk
  ·rw[if_neg HG];simp only[gG,To];refine⟨.ready,none,_,_,_,_,_,_,_,by show (B++_)[N+3]?=_;rw[bg];rfl,by decide,?_⟩;rw[show N+2+1=N+3 from rfl,GU,Jm];(try simp only[seval]);refine GK ?_;refine ab ?_;simp only[seval,bK];refine⟨i+1,?_,⟨by omega,λj hj g hm=> ?_⟩,dY (by push_cast;simp only[seval];simp[bh,Wk.refl]) (by rw[hB];rfl),by rw[yJ,hN]⟩
   ·show p+1-(i+1)<p+1-i;omega
   ·by_cases cE:j<i
    ·exact fS j cE g hm
    ·have:j=i:=(by omega);subst this;apply Uz;intro aF;exact HG (U5.2 ⟨g,hm,by simpa using aF⟩)
 ·
  have dK:i=p+1:=by omega
  subst dK;have ML:w9 x=false:=by
   unfold w9;rw[Bool.eq_false_iff];intro hc;obtain⟨j,h1,h2⟩:=U5.1 hc;obtain⟨h,h3,h4⟩:=U5.1 h2;rw[UN]at h1;have:=fS j (by omega) h h3;rw[this]at h4;cases h4
  rw[ML]at hk;have abB:(kP x H (p+1))[H.length+1]?=some (.cells [bv false] 4):=by have:=sq [];rwa[To]at this
  refine bD ?_;refine tO ?_;refine ab ?_;simp only[seval,abB];rw[rE abB];refine GK ?_;refine ng ?_;rw[alD];obtain⟨Y,xn⟩:=KR x H (p+1) [];rw[To]at xn;refine eK xn ?_;refine ak8 λL=> ?_;have bZ:(H++[aa.cells x.l 76,.cells [bv false] 4]++Y++L)[H.length+1]?=some (.cells [bv false] 4):=by
   rw[Te,Te];exact aW H _ 1
  (try simp only[seval,iH,wA,bZ,aa.cellsOf]);exact jg hH hk
end
open Go.Conc Go.Proofs Go.Gg.Tk
section
variable {lv:Bool}{H:SA}{k kp:SF}
def sd{n lo hi:Int}(hk:k (bv (decide (n<lo)||decide (n>hi))) H):ba lv S_ 59 H [iv n,iv lo,iv hi] k kp:=by
 refine bH (rs:=[.tmp 6]) (nt:=15) Tryz.f59 λhH hA=> ?_;simp only[bm,Tu];refine ah ?_;by_cases h:n<lo
 ·have h1:decide (n<lo)=true:=by simpa using h
  refine ab ?_;simp only[seval,h1];refine aT ?_;rw[h1,Z1]at hk;exact b8 hk
 ·have h1:decide (n<lo)=false:=by simpa using h
  refine ab ?_;simp only[seval,h1];refine aT ?_;rw[h1,Y_]at hk;exact b8 hk
def Lw{b:eG}{hi e at':Int}(hb:tE b hi)(hk:k (.val .nilIface) H):ba lv S_ 104 H [b.av,iv hi,iv e,iv at'] k kp:=by
 refine bH (rs:=[.tmp 8]) (nt:=33) Tryz.f104 λhH hA=> ?_;simp only[bm,Tu,eG.av];have h1:(decide (b.min<0)||decide (b.min>hi))=false:=by have:=hb.min;have:=hb.le;have:=hb.max;simp;omega
 have h2:(decide (b.max<0)||decide (b.max>hi))=false:=by have:=hb.min;have:=hb.le;have:=hb.max;simp;omega
 have h3:decide (b.min>b.max)=false:=by have:=hb.le;simp;omega
 refine ah ?_;refine ab ?_;simp only[seval,eG.l];refine aG (sd ?_);(try simp only[seval,h1]);refine aG (sd ?_);(try simp only[seval,h2]);refine aB ?_;refine ab ?_;simp only[seval,h3];refine aB ?_;refine aE ?_;refine ah ?_;refine aT ?_;exact jg hH hk
def akM(hk:k (bv true) H):ba lv S_ 52 H [] k kp:=by
 refine bH (rs:=[.tmp 0]) (nt:=1) Tryz.f52 λhH hA=> ?_;simp only[bm,Tu];refine ah ?_;refine ah ?_;refine aT ?_;exact b8 hk
def aj7{t:AV}(hk:k (bv false) H):ba lv S_ 105 H [.val .nilIface,t] k kp:=by
 refine bH (rs:=[.tmp 4]) (nt:=42) Tryz.f105 λhH hA=> ?_;simp only[bm,Tu];refine ah ?_;refine ab ?_;simp only[seval,F.Fb];refine aB ?_;refine ah ?_;refine aT ?_;exact b8 hk
def ak3(hk:k (iv 0) H):ba lv S_ 84 H [.val .nilIface] k kp:=by
 refine bH (rs:=[.tmp 2]) (nt:=9) Tryz.f84 λhH hA=> ?_;simp only[bm,Tu];refine ah ?_;refine ah ?_;refine ab ?_;simp only[seval,F.aow];refine aG (aj7 ?_);(try simp only[seval]);refine aB ?_;refine aE ?_;refine ah ?_;refine aT ?_;exact jg hH hk
def ak2{x:ak}{y:Seen}{at':Int}(hh:0<=y.hour/\y.hour<=x.hours)(hb:tE y.next 99)(hk:k (.val .nilIface) H):ba lv S_ 83 H [x.av,y.av,iv at'] k kp:=by
 refine bH (rs:=[.tmp 6]) (nt:=19) Tryz.f83 λhH hA=> ?_;simp only[bm,Tu,ak.av,Seen.av];have h1:(decide (y.hour<0)||decide (y.hour>x.hours))=false:=by simp;omega
 refine ab ?_;simp only[seval,TO,Seen.l];refine ah ?_;refine aG (sd ?_);(try simp only[seval,h1]);refine aB ?_;refine aE ?_;refine ah ?_;refine aG (Lw (b:=y.next) hb ?_);(try simp only[seval]);refine aT ?_;exact jg hH hk
def aaO{x:ak}{l:SY}(hx:x.Ok)(hl:∀y∈l,Kh x y)(o4:l.length<=4)(hk:k (.val .nilIface) H):ba lv S_ 85 H [x.av,aR l] k kp:=by
 refine bH (rs:=[.tmp 4]) (nt:=34) Tryz.f85 λhH hA=> ?_;simp only[bm,Tu,ak.av];have um:=hx.hours;have zG:Tg.wrap (x.hours-1)=x.hours-1:=a_ _ (by omega);refine ab ?_;simp only[seval,TO];refine ab ?_;simp only[seval,aR];refine bF ?_;refine pL l.length (λi:Nat=>[(11,iv i)]) (λ_=>_) (λi=>True) trivial (λbz bE i ce _ R hR=> ?_);refine ah ?_;refine aB ?_;refine⟨λh=> ?_,λh=> ?_⟩
 ·have bk:i<l.length:=by omega
  obtain⟨y,hy⟩:=bA bk;have EY:=hl y (T8 hy);have bK:=TN i (by omega)
  refine aE ?_;refine ab ?_;simp only[seval,Cu hy,jx bk];refine ah ?_;refine aG (Lw (b:=y.number) EY.number ?_);(try simp only[seval]);refine ab ?_;simp only[seval,F.Fb];refine aB ?_;refine aE ?_;refine ab ?_;simp only[seval,TP,zG];refine aG (Lw (b:=y.hour) EY.hour ?_);(try simp only[seval]);refine ab ?_;simp only[seval,F.Fb];refine aB ?_;refine aE ?_;refine ab ?_;simp only[seval,bK];exact hR _ ⟨bk,trivial,Ck (jZ rfl rfl) (by simp only[seval];simp[bh,Wk.refl]) bz (by simp[dj])⟩
 ·refine bD ?_;refine ah ?_;refine aT ?_;exact jg hH hk
def Hb{x:ak}(hx:x.Ok)(hk:k (iv 0) H):ba lv S_ 62 H [x.av] k kp:=by
 refine bH (rs:=[.tmp 2]) (nt:=62) Tryz.f62 λhH hA=> ?_;simp only[bm,Tu,ak.av];have h1:(decide (x.first<0)||decide (x.first>90))=false:=by have:=hx.first;simp;omega
 have h2:(decide (x.hours<1)||decide (x.hours>3))=false:=by have:=hx.hours;simp;omega
 have h3:(decide (x.am<1)||decide (x.am>3))=false:=by have:=hx.am;simp;omega
 have g3:decide ((3:Int)<x.seen.length)=false:=by have:=hx.Ad;simp;omega
 have g4:decide ((4:Int)<x.pieces.length)=false:=by have:=hx.dQ;simp;omega
 have g5:decide ((3:Int)<x.aC.length)=false:=by have:=hx.dC;simp;omega
 refine ab ?_;simp only[seval,TO];refine ab ?_;simp only[seval,TP];refine aG (sd ?_);(try simp only[seval,h1,TP]);refine aG (sd ?_);(try simp only[seval,h2,TP]);refine aG (sd ?_);(try simp only[seval,h3]);refine aB ?_;refine aE ?_;refine ab ?_;simp only[seval,TP,dl,g3];refine aB ?_;refine aE ?_;refine ab ?_;simp only[seval,TP,dl];refine bF ?_;refine pL x.seen.length (λi:Nat=>[(27,iv i)]) (λ_=>_) (λi=>True) trivial (λbz bE i ce _ R hR=> ?_);refine ah ?_;refine aB ?_;refine⟨λh=> ?_,λh=> ?_⟩
 ·have bk:i<x.seen.length:=by omega
  obtain⟨y,hy⟩:=bA bk;have EY:=hx.seen y (T8 hy);have bK:Tg.wrap ((i:Int)+1)=((i+1:Nat):Int):=by have:=hx.Ad;rw[a_ _ (by omega)];rfl
  refine aE ?_;refine ab ?_;simp only[seval,P_ hy,jx bk];refine ab ?_;simp only[seval,TP];refine aG (ak2 (x:=x) (y:=y) EY.1 EY.2 ?_);(try simp only[seval]);refine ab ?_;simp only[seval,F.Fb];refine aB ?_;refine aE ?_;refine ab ?_;simp only[seval,bK];exact hR _ ⟨bk,trivial,Ck (jZ rfl rfl) (by simp only[seval];simp[bh,Wk.refl]) bz (by simp[dj])⟩
 ·refine bD ?_;refine ab ?_;simp only[seval,TP,aR,g4];refine aB ?_;refine aE ?_;refine ab ?_;simp only[seval,TP];refine aG (aaO (x:=x) (l:=x.pieces) hx hx.piece hx.dQ ?_);(try simp only[seval]);refine ab ?_;simp only[seval,F.Fb];refine aB ?_;refine aE ?_;refine ab ?_;simp only[seval,TP,g5];refine aB ?_;refine aE ?_;refine ab ?_;simp only[seval,TP];refine aG (aaO (x:=x) (l:=x.aC) hx hx.stub (by have:=hx.dC;omega) ?_);(try simp only[seval]);refine aG (ak3 ?_);(try simp only[seval]);refine aT ?_;exact jg hH hk
end
def QV (lv:Bool)(H:SA)(f:AV)(b:Bool):Prop:=∀(L:SA)(k kp:SF),k (bv b) (H++L)->ju lv S_ f (H++L) [] k kp
def pC:SC:=[iv 0,iv 0,iv 0,.sl 0 [] .exact,.sl 0 [] .exact,.sl 0 [] .exact]
def dN (D:Kn):Int:=if D.has then 0 else 11
def TR{x:ak}:VN 6 x.l=x.l:=rfl
def TQ{x:ak}:x.l.length=6:=rfl
def TY{H:List aa}:∀(L:SA)(j:Nat)(y:aa),(H++L).set (H.length+j) y=H++L.set j y:=λL j y=>dB H L j y
def TW{H:List aa}:∀(L:SA)(j:Nat),(H++L)[H.length+j]?=L[j]?:=λL j=>aW H L j
def TS{H:List aa}:∀(L:SA),(H++L)[H.length+1]?=L[1]?:=λL=>aW H L 1
def TU{H:List aa}:∀(L:SA),(H++L)[H.length+2]?=L[2]?:=λL=>aW H L 2
def xd{x:ak}{deep:Int}{p:Nat}{H:SA}{k kp:SF}{f:AV}{b:Bool}(hx:x.Ok)(hp:x.am=p)(hm:H[0]?=some .main)(hf:QV true H f b)(gT:b=false->k (.aL [.agg pC,.agg jb,iv 3]) H)(cp:b=true->∀js D L mp,js.Perm (T1 (p+1))->nH x deep js D->bP D->H.length<=mp->(H++L)[mp]?=some (setH D.aM)->k (.aL [x.av,.agg (D.l mp),iv (dN D)]) (H++L)):ba true S_ 51 H [x.av,iv deep,f] k kp:=by
 refine bH (rs:=[.cell 6 76,.cell 7 88,.tmp 8]) (nt:=36) Tryz.f51 λhH hA=> ?_;simp only[bm,Tu,ak.av];refine ah ?_;refine ab ?_;simp only[seval,TP,TO];refine aG (Hb (x:=x) hx ?_);(try simp only[seval]);refine ah ?_;refine aB ?_;refine aE ?_;refine ah ?_;refine yI (hf _ _ _ ?_);(try simp only[seval]);refine aB ?_;refine⟨λhb=> ?_,λhb=> ?_⟩
 ·have dO:b=false:=by simpa using hb
  have:=gT dO;refine ah ?_;refine ng ?_;simp only[seval,TS,TU];exact f_ hH (Wk.refl _) (by simp[iF,qp,dj,pC,jb,O1]) this
 ·have dO:b=true:=by simpa using hb
  refine aE ?_;refine ab ?_;simp only[seval,TP];refine⟨⟨rfl,rfl,rfl⟩,?_⟩;have sw:∀(L:SA),(H++L)[H.length+3]?=L[3]?:=λL=>aW H L 3;refine ab ?_;simp only[seval,sw];refine aG (akZ (x:=x) hx (CC hx) hp (fH hm) λjs D L5 gR iN di hl5=> ?_);have eP:=λmp=>Kn.len di mp;have iU:=sT D;obtain⟨z0,z1,z2,z3,z4,rfl⟩:∃z0 z1 z2 z3 z4,L5=[z0,z1,z2,z3,z4]:=by
   match L5,hl5 with
   |[a,b,c,d,e],_=>exact⟨a,b,c,d,e,rfl⟩
  (try simp only[seval,eP]);refine⟨iU _,?_⟩;have amF:∀(L:SA),(H++L)[H.length+10]?=L[10]?:=λL=>aW H L 10;obtain⟨mp,q_⟩:∃mp,mp=H.length+4+5:=⟨_,rfl⟩;rw[<- q_];refine ab ?_;simp only[seval,amF,Kn.DK];obtain⟨kj,dh⟩:∃kj:SC->SC->SA,∀u v,kj u v=H++[.cells x.l 26,.cells u 76,.cells v 88,.cells x.l 76,z0,z1,z2,z3,z4,setH D.aM,.cells (D.l mp) 88]:=⟨_,λ_ _=>rfl⟩;have p1:∀u v,(kj u v)[H.length+1]?=some (.cells u 76):=λu v=>by rw[dh,TW];rfl
  have p2:∀u v,(kj u v)[H.length+2]?=some (.cells v 88):=λu v=>by rw[dh,TW];rfl
  have p3:∀u v,(kj u v)[H.length+3]?=some (.cells x.l 76):=λu v=>by rw[dh,TW];rfl
  have p10:∀u v,(kj u v)[H.length+10]?=some (.cells (D.l mp) 88):=λu v=>by rw[dh,TW];rfl
  have s1:∀u v w,(kj u v).set (H.length+1) (.cells w 76)=kj w v:=λu v w=>by rw[dh,TY,dh];rfl
  have s2:∀u v w,(kj u v).set (H.length+2) (.cells w 88)=kj u w:=λu v w=>by rw[dh,TY,dh];rfl
  have eJ:∀(e:Int),e=dN D->k (.aL [x.av,.agg (D.l mp),iv e]) (kj x.l (D.l mp)):=λe he=>by
   rw[he,dh];refine cp dO js D _ mp gR iN di (by omega) ?_;rw[q_,show H.length+4+5=H.length+9 from rfl,TW];rfl
  have e0:=dh pC jb;simp only[pC,jb,TO,iv,bv,wv,UP,Wv,VK,push_cast,Int.cast_ofNat_Int]at e0;rw[<- e0];clear e0;have nv:jb.length=28:=rfl;have hzr:pC.length=6:=rfl;have It:VN 28 (D.l mp)=D.l mp:=Tx (by rw[eP];exact Ts _);have xx:∀l:SC,l.length=28->D.l mp++U4 (D.l mp).length l=D.l mp:=λl hl=>by rw[eP,U2 (by omega),To]
  have acJ:∀a∈x.l,a.leaf=true:=λa ha=>by
   simp only[ak.l,Tm,T7,or_false]at ha;rcases ha with rfl|rfl|rfl|rfl|rfl|rfl<;>rfl
  refine aB ?_;refine⟨λhh=> ?_,λhh=> ?_⟩
  ·have Mh:D.has=false:=(by simpa using hh);have:=eJ 11 (by rw[dN,Mh];rfl);refine lY [2,3] [0,1,2,3,4] (λD'=>bif isDone 3 D' then kj x.l (D.l mp)else bif isDone 2 D' then kj x.l jb else kj pC jb) ?_;simp only[seval,p1,p2,p3,p10,s1,s2,eP,TQ,nv,hzr,iU];rw[TR,It];refine⟨rfl,Ts _,acJ,rfl,eP _,by rw[eP];exact Ts _,iU _,by rw[xx _ rfl];rfl,?_⟩;refine ng ?_;simp only[seval,p1,p2,eP];rw[It];refine eK (a:=[x.av,.agg (D.l mp),iv 11]) rfl ?_;exact b8 this
  ·have Mh:D.has=true:=(by simpa using hh);have:=eJ 0 (by rw[dN,Mh];rfl);refine aE ?_;refine lY [2,3] [0,1,2,3,4] (λD'=>bif isDone 3 D' then kj x.l (D.l mp)else bif isDone 2 D' then kj x.l jb else kj pC jb) ?_;simp only[seval,p1,p2,p3,p10,s1,s2,eP,TQ,nv,hzr,iU];rw[TR,It];refine⟨rfl,Ts _,acJ,rfl,eP _,by rw[eP];exact Ts _,iU _,by rw[xx _ rfl];rfl,?_⟩;refine ng ?_;simp only[seval,p1,p2,eP];rw[It];refine eK (a:=[x.av,.agg (D.l mp),iv 0]) rfl ?_;exact b8 this
namespace Tk
def fX (s:Nat)(more:Int)(i:Nat):SD:=((T1 i).filter s.testBit).map λn:Nat=>(n:Int)+more
def adi(s:Nat)(more:Int)(i:Nat):fX s more (i+1)=if s.testBit i then fX s more i++[(i:Int)+more]else fX s more i:=by
 unfold fX;rw[VW,XO,Uq];by_cases h:s.testBit i=true
 ·simp[h]
 ·simp[h]
def OS(s:Nat)(more:Int)(i:Nat):(fX s more i).length<=i:=by
 unfold fX;rw[Ue];exact UK (WX _ _) (by simp)
end Tk
def z1:gZ (Th .i64 0) 1=[iv 0]:=rfl
section
variable {lv:Bool}{H:SA}{k kp:SF}
def G_{s:Nat}{more:Int}(hs:s<65536)(hm:0<=more/\more<=1000)(hk:k (aO (fX s more 16)) H):ba lv S_ 56 H [wv s,iv more] k kp:=by
 refine bH (rs:=[.tmp 4]) (nt:=21) Tryz.f56 λhH hA=> ?_;simp only[bm,Tu];refine ah ?_;refine ah ?_
 (repeat apply fu);refine nh (t:=5) (sz:=1) (el:=3) (by simp only[seval]<;>rfl) ?_
 refine ah ?_;refine bF ?_;refine ej 16 (λi:Nat=>[(5,.sl (fX s more i).length ((fX s more i).map iv) (.opn H.length)),(7,iv i)]) (λi=>H++[.tail (fX s more i).length 1 3]) (λ_=>True) (λ_ _=>rfl) (by simp only[seval];simp[bh,Wk.refl];exact Wk.refl _) rfl (λ_ _ _=>by simp) trivial (λbz bE i ce hi R hR=> ?_);refine ah ?_;refine aB ?_;refine⟨λh=> ?_,λh=> ?_⟩
 ·have hl:i<16:=by omega
  have gA:=TN i (by omega)
  have vP:Tg.wrap ((i:Int)+more)=(i:Int)+more:=a_ _ (by omega);have fI:=OS s more i;refine aE ?_;refine ah ?_;refine ah ?_;refine aG (vu hs ?_);(try simp only[seval]);refine aB ?_;refine⟨λhb=> ?_,λhb=> ?_⟩
  ·refine ab ?_;simp only[seval,z1,vP]
   first|refine⟨by decide,by omega,?_⟩|refine⟨by omega,?_⟩
   refine ab ?_;simp only[seval,gA];have cW:fX s more (i+1)=fX s more i++[(i:Int)+more]:=(by rw[adi,if_pos hb]);refine hR _ ⟨hl,trivial,?_⟩;rw[cW,Uq,Tt];exact bX
  ·refine aE ?_;refine ab ?_;simp only[seval,gA];have cW:fX s more (i+1)=fX s more i:=(by rw[adi,if_neg (by simpa using hb)]);refine hR _ ⟨hl,trivial,?_⟩;rw[cW];exact bX
 ·refine bD ?_;have:i=16:=by omega
  subst this;refine ah ?_;refine aT ?_;rw[aO]at hk;exact f_ hH (ff _ _ _) (by simp[pq,dj]) hk
def ak1{x:ak}{n:Int}{ir:Nat}(hx:x.Ok)(hr:H[ir]?=some (.cells x.l 26))(hk:k (bv (decide (n<0)||decide (n>(x.pieces.length:Int)-1))) H):ba lv S_ 82 H [iv n,.op ir 0] k kp:=by
 refine bH (rs:=[.tmp 3]) (nt:=10) Tryz.f82 λhH hA=> ?_;simp only[bm,Tu];have lJ:=hx.dQ;have hw:Tg.wrap ((x.pieces.length:Int)-1)=(x.pieces.length:Int)-1:=a_ _ (by omega);refine ah ?_;refine ab ?_;simp only[seval,hr,TO,aR,hw];refine aG (sd ?_);(try simp only[seval]);refine aT ?_;exact b8 hk
def aj6{ns:SD}{f:AV}{e:End}(iW:ns.length<=4)(g:Int->Bool)(hf:∀n∈ns,∀(k kp:SF),k (bv (g n)) H->ju lv S_ f H [iv n] k kp)(hk:k (iv (match ns.findIdx? g with|some i=>(i:Int)|none=> -1)) H):ba lv S_ 103 H [.sl ns.length (ns.map iv) e,f] k kp:=by
 refine bH (rs:=[.tmp 4]) (nt:=19) Tryz.f103 λhH hA=> ?_;simp only[bm,Tu];refine ah ?_;refine ah ?_;refine bF ?_;refine pL ns.length (λi:Nat=>[(8,iv i)]) (λ_=>_) (λi=>∀n∈ns.take i,g n=false) (by simp) (λbz bE i ce hi R hR=> ?_);refine ah ?_;refine aB ?_;refine⟨λh=> ?_,λh=> ?_⟩
 ·have bk:i<ns.length:=by omega
  obtain⟨n,hn⟩:=bA bk;have gA:=TN i (by omega)
  refine aE ?_;refine ah ?_;refine ab ?_;simp only[seval,dp hn,jx bk];refine yI (hf n (T8 hn) _ _ ?_);(try simp only[seval]);refine aB ?_;refine⟨λhg=> ?_,λhg=> ?_⟩
  ·refine ah ?_;refine aT ?_;have:ns.findIdx? g=some i:=by
    rw[Yx];refine⟨bk,?_,λj hj=> ?_⟩
    ·rw[Tw bk]at hn;cases hn;exact hg
    ·have:=hi ns[j] (by rw[List.mem_take_iff_getElem];exact⟨j,by omega,rfl⟩);simp[this]
   rw[this]at hk;exact b8 hk
  ·refine aE ?_;refine ab ?_;simp only[seval,gA];refine hR _ ⟨bk,λm hm=> ?_,bX⟩;rw[UZ,hn]at hm;rcases Tv.1 hm with h'|h'
   ·exact hi m h'
   ·simp at h';rw[h'];simpa using hg
 ·have:i=ns.length:=by omega
  subst this;rw[Un]at hi;refine bD ?_;refine ah ?_;refine aT ?_;have:ns.findIdx? g=none:=by rw[Zf];exactλn hn=>hi n hn
  rw[this]at hk;exact b8 hk
def ak0{ns:SD}{f:AV}{e:End}(iW:ns.length<=4)(g:Int->Bool)(hf:∀n∈ns,∀(k kp:SF),k (bv (g n)) H->ju lv S_ f H [iv n] k kp)(hk:k (bv (ns.any g)) H):ba lv S_ 81 H [.sl ns.length (ns.map iv) e,f] k kp:=by
 refine bH (rs:=[.tmp 4]) (nt:=9) Tryz.f81 λhH hA=> ?_;simp only[bm,Tu];refine ah ?_;refine ah ?_;refine aG (aj6 iW g hf ?_);(try simp only[seval]);refine aT ?_;refine b8 ?_;have:decide ((match ns.findIdx? g with|some i=>(i:Int)|none=> -1)>=0)=ns.any g:=by
  cases h:ns.findIdx? g with
  |none=>
   rw[Zf]at h;have:ns.any g=false:=by
    rw[List.any_eq_false];exactλn hn=>by simp[h n hn]
   rw[this];rfl
  |some i=>
   rw[Yx]at h;obtain⟨h1,h2,_⟩:=h;have:ns.any g=true:=U5.2 ⟨ns[i],W_ h1,h2⟩;rw[this];simp
 rw[this];exact hk
def wy (x:ak)(ns:SD):Bool:= !(ns.any λn=>decide (n<0)||decide (n>(x.pieces.length:Int)-1))
def Hd{x:ak}{ns:SD}{e:End}{il ir:Nat}(hx:x.Ok)(iW:ns.length<=4)(hl:H[il]?=some (.cells [.sl ns.length (ns.map iv) e] 22))(hr:H[ir]?=some (.cells x.l 26))(hk:k (bv (wy x ns)) H):ba lv S_ 80 H [.op il 0,.op ir 0] k kp:=by
 refine bH (rs:=[.tmp 2]) (nt:=7) Tryz.f80 λhH hA=> ?_;simp only[bm,Tu];refine ah ?_;refine ab ?_;simp only[seval,hl,Vb,VH,Vk,UX];refine aG (ak0 (ns:=ns) iW (λn=>decide (n<0)||decide (n>(x.pieces.length:Int)-1)) (λn hn k kp hk=> ?_) ?_)
 ·exact cP (ak1 hx hr hk)
 (try simp only[seval]);refine aT ?_;exact b8 hk
def Ha{x:ak}{ns:SD}{e:End}(hk:k (.fn (.func 80) [] [.op (H.length+1) 0,.op H.length 0]) (H++[.cells x.l 26,.cells [.sl ns.length (ns.map iv) e] 22])):ba lv S_ 58 H [x.av,.sl ns.length (ns.map iv) e] k kp:=by
 refine bH (rs:=[.tmp 4]) (nt:=6) Tryz.f58 λhH hA=> ?_;simp only[bm,Tu,ak.av];refine ah ?_;refine ab ?_;simp only[seval,Vb,VH,Vk,UX];refine aT ?_;exact b8 hk
end
open Go.Conc Go.Proofs Go.Gg.Tk
structure bp where
 ap:SD
 g:Int
 s:Int
def An (τ:bp):aa:=.cells [aO τ.ap,.val (.int .i64 τ.g),.val (.int .u64 τ.s)] 73
def J7 (a b:Int):Int:=UE.wrap (Vj UE.bits a^^^Vj UE.bits b).toNat
def af3 (g:Int):Int:=UE.wrap (UE.wrap (UE.wrap g* 15074714826142052245)+11400714819323198485)
def QE (τ:bp):Int:=match τ.ap[τ.g.toNat]?with
 |some x=>J7 (af3 τ.g) (UE.wrap (UE.wrap x* 12620523164723586485))
 |none=>af3 τ.g
def aqb (s w:Int):Int:=UE.wrap (UE.wrap (s+w)* 13787848793156543929)
def aqc (s:Int):Int:=J7 s (s.fdiv (2^min 31 UE.bits))
def Ji (s:Int):Int:=(J7 s (s.fdiv (2^min 27 UE.bits))).fdiv (2^min 9 UE.bits)
def tick (τ:bp):bp:=⟨τ.ap,τ.g+1,aqc (aqb τ.s (QE τ))⟩
def xZ (τ:bp):Int:=Ji (UE.wrap ((tick τ).s* 10723151780598845931))
def afS(n:Int)(h0:0<=n)(h:n<2^64):UE.wrap n=n:=by
 have h1:UE.bits=64:=rfl;have h2:UE.signed=false:=rfl;unfold Yf;rw[h1,h2];simp;omega
def au3(n:Int):0<=UE.wrap n/\UE.wrap n<2^64:=by
 have h1:UE.bits=64:=rfl;have h2:UE.signed=false:=rfl;unfold Yf;rw[h1,h2];simp;omega
def ad0(s:Int):0<=Ji s/\Ji s<2^55:=by
 unfold Ji J7;have h:=au3 (Vj UE.bits s^^^Vj UE.bits (s.fdiv (2^min 27 UE.bits))).toNat;have e:(2:Int)^min 9 UE.bits=512:=by decide
 rw[e,Int.fdiv_eq_ediv_of_nonneg _ (show (0:Int)<=512 by decide)];omega
def dt (τ:bp)(n:Int):Int:=if n<1 then 0 else(xZ τ).tmod (n+1)
def lV(τ:bp)(n:Int):0<=dt τ n/\(dt τ n<=n\/dt τ n=0):=by
 unfold dt;split
 ·omega
 ·have h:=(ad0 (UE.wrap ((tick τ).s* 10723151780598845931))).1;have h1:=Int.tmod_nonneg (n+1) h;have h2:=Int.tmod_lt_of_pos (xZ τ) (show 0<n+1 by omega);unfold xZ at h2⊢;omega
def CF (τ:bp)(lo hi:Int):Int:=lo+dt τ (hi-lo)
def af1(τ:bp){lo hi:Int}(h:lo<=hi):lo<=CF τ lo hi/\CF τ lo hi<=hi:=by
 have:=lV τ (hi-lo);unfold CF;omega
def asi (τ:bp)(n:Int):Bool:=dt τ (n-1)==0
structure dU (Gf:bp->SA)(t N:Nat):Prop where
 len:∀τ,(Gf τ).length=N
 get:∀τ,(Gf τ)[t]?=some (An τ)
 set:∀τ τ',(Gf τ).set t (An τ')=Gf τ'
 ok:∀m τ τ',(∀z∈Gf τ,e9 m z)->∀z∈Gf τ',e9 m z
def dU.more{Gf:bp->SA}{t N:Nat}(h:dU Gf t N)(L:SA):dU (λτ=>Gf τ++L) t (N+L.length)where
 len:=λτ=>by simp[h.len]
 get:=λτ=>fH (h.get τ)
 set:=λτ τ'=>by show (Gf τ++L).set t _=_;rw[VX _ _ (e_ (h.get τ)),h.set]
 ok:=λm τ τ' hk z hz=>(Tv.1 hz).elim (λhz=>h.ok m τ τ' (λv hv=>hk v (Ul _ hv)) z hz) (λhz=>hk z (T_ _ hz))
def dU.aq{Gf:bp->SA}{t N:Nat}(h:dU Gf t N){τ:bp}(hH:bJ (Gf τ))(τ':bp):bJ (Gf τ'):=λz hz=>by
 have:=h.ok N τ τ' (λw hw=>by have:=hH w hw;rwa[h.len]at this) z hz;rwa[h.len]
section
variable {Gf:bp->SA}{t N:Nat}(h:dU Gf t N)
include h
def dU.g0(τ:bp)(L:SA):(Gf τ++L)[N]?=L[0]?:=by have:=wV (Gf τ) L 0;rwa[h.len]at this
def dU.g1(τ:bp)(L:SA):(Gf τ++L)[N+1]?=L[1]?:=by have:=wV (Gf τ) L 1;rwa[h.len]at this
def dU.g2(τ:bp)(L:SA):(Gf τ++L)[N+1+1]?=L[2]?:=by have:=wV (Gf τ) L 2;rwa[h.len]at this
def dU.g3(τ:bp)(L:SA):(Gf τ++L)[N+1+1+1]?=L[3]?:=by have:=wV (Gf τ) L 3;rwa[h.len]at this
def dU.h2(τ:bp)(L:SA):(Gf τ++L)[N+2]?=L[2]?:=h.g2 τ L
def dU.h3(τ:bp)(L:SA):(Gf τ++L)[N+3]?=L[3]?:=h.g3 τ L
def dU.s0(τ:bp)(L:SA)(x:aa):(Gf τ++L).set N x=Gf τ++L.set 0 x:=by have:=wW (Gf τ) L 0 x;rwa[h.len]at this
def dU.s1(τ:bp)(L:SA)(x:aa):(Gf τ++L).set (N+1) x=Gf τ++L.set 1 x:=by have:=wW (Gf τ) L 1 x;rwa[h.len]at this
def dU.s2(τ:bp)(L:SA)(x:aa):(Gf τ++L).set (N+1+1) x=Gf τ++L.set 2 x:=by have:=wW (Gf τ) L 2 x;rwa[h.len]at this
def dU.s3(τ:bp)(L:SA)(x:aa):(Gf τ++L).set (N+1+1+1) x=Gf τ++L.set 3 x:=by have:=wW (Gf τ) L 3 x;rwa[h.len]at this
def dU.t2(τ:bp)(L:SA)(x:aa):(Gf τ++L).set (N+2) x=Gf τ++L.set 2 x:=h.s2 τ L x
def dU.t3(τ:bp)(L:SA)(x:aa):(Gf τ++L).set (N+3) x=Gf τ++L.set 3 x:=h.s3 τ L x
end
def aqL(m:Nat)(τ:bp):e9 m (An τ):=by
 intro a ha;simp only[Tm,T7,or_false]at ha;rcases ha with rfl|rfl|rfl
 ·rw[xU];trivial
 ·exact .val _
 ·exact .val _
def auN(H:SA):dU (λτ=>H++[An τ]) H.length (H.length+1)where
 len:=λτ=>by simp
 get:=λτ=>by simp
 set:=λτ τ'=>by simp
 ok:=λm τ τ' hk z hz=>by
  rcases Tv.1 hz with hz|hz
  ·exact hk z (Ul _ hz)
  ·rw[Ub.1 hz];exact aqL _ _
structure bp.Ok (τ:bp)(b:Int):Prop where
 g0:0<=τ.g
 g:τ.g<=b
 len:τ.ap.length<=2^50
section
variable {lv:Bool}{H:SA}{k kp:SF}{Gf:bp->SA}{t N:Nat}{τ:bp}{b:Int}
def akp{ap:SD}(hk:k (.op H.length 0) (H++[An ⟨ap,0,7640891576956012809⟩])):ba lv S_ 16 H [aO ap] k kp:=by
 refine bH (rs:=[.tmp 2]) (nt:=6) Tryz.f16 λhH hA=> ?_;simp only[bm,Tu];refine ah ?_;refine ah ?_;refine aT ?_;exact b8 hk
def bp.Ok.tick(h:τ.Ok b):(tick τ).Ok (b+1):=⟨by have:=h.g0;show 0<=τ.g+1;omega,by have:=h.g;show τ.g+1<=b+1;omega,h.len⟩
def bp.Ok.mono{b':Int}(h:τ.Ok b)(hb:b<=b'):τ.Ok b':=⟨h.g0,by have:=h.g;omega,h.len⟩
def akP(hT:dU Gf t N)(hτ:τ.Ok b)(hb:b<2^60)(hk:k (.val (.int .u64 (xZ τ))) (Gf (tick τ))):ba lv S_ 55 (Gf τ) [.op t 0] k kp:=by
 obtain⟨ap,g,s⟩:=τ;obtain⟨l8,hgb,hln⟩:=hτ;simp only at l8 hgb hln;refine bH (rs:=[.tmp 2]) (nt:=76) Tryz.f55 λhH hA=> ?_;simp only[bm,Tu];have hg:∀τ,(Gf τ)[t]?=some (.cells [.sl τ.ap.length (τ.ap.map iv) .shut,.val (.int .i64 τ.g),.val (.int .u64 τ.s)] 73):=hT.get;have hs:∀τ (FD:SD) g' s',(Gf τ).set t (.cells [.sl FD.length (FD.map iv) .shut,.val (.int .i64 g'),.val (.int .u64 s')] 73)=Gf ⟨FD,g',s'⟩:=λτ FD g' s'=>hT.set τ ⟨FD,g',s'⟩;obtain⟨n,rfl⟩:∃n:Nat,g=n:=⟨g.toNat,by omega⟩;have hw:Tg.wrap ((n:Int)+1)=n+1:=a_ _ (by omega);refine ah ?_;refine ab ?_;simp only[seval,hg];refine eA 9 ?_;simp only[seval,hg];refine aB ?_;refine⟨λh=> ?_,λh=> ?_⟩
 ·have iV:n<ap.length:=by simpa using h
  obtain⟨x,hx⟩:=bA iV;refine eA 13 ?_;simp only[seval,hg,dp hx,jx iV,Dd];refine ab ?_;simp only[seval,hg,hw,hs];refine ab ?_;simp only[seval,hg,hs];refine eA 11 ?_;simp only[seval,hg,hs,Dc,Dd];refine ab ?_;simp only[seval,hg];refine ab ?_;simp only[seval,Dc,Dd];refine aT ?_;refine b8 ?_;unfold xZ tick QE at hk;simp only[WU,hx]at hk;exact hk
 ·have iV:¬n<ap.length:=by simpa using h
  have hx:ap[n]?=none:=by rw[Vy];omega
  refine aE ?_;refine ab ?_;simp only[seval,hg,hw,hs];refine ab ?_;simp only[seval,hg,hs];refine eA 11 ?_;simp only[seval,hg,hs,Dc,Dd];refine ab ?_;simp only[seval,hg];refine ab ?_;simp only[seval,Dc,Dd];refine aT ?_;refine b8 ?_;unfold xZ tick QE at hk;simp only[WU,hx]at hk;exact hk
def pP{n:Int}(hT:dU Gf t N)(hτ:τ.Ok b)(hb:b<2^60)(hn:n<2^60)(hk:k (iv (dt τ n)) (Gf (tick τ))):ba lv S_ 25 (Gf τ) [.op t 0,iv n] k kp:=by
 refine bH (rs:=[.tmp 4]) (nt:=16) Tryz.f25 λhH hA=> ?_;simp only[bm,Tu];refine ah ?_;refine ah ?_;refine aG (akP hT hτ hb ?_);(try simp only[seval]);refine ah ?_;refine aB ?_;refine⟨λh=> ?_,λh=> ?_⟩
 ·have h:n<1:=by simpa using h
  refine ah ?_;refine aT ?_;rw[dt,if_pos h]at hk;exact b8 hk
 ·have h:¬n<1:=by simpa using h
  have ho:=ad0 (UE.wrap ((tick τ).s* 10723151780598845931));have bK:UE.wrap n=n:=afS n (by omega) (by omega);have c_:UE.wrap (n+1)=n+1:=afS _ (by omega) (by omega);have o_:n+1≠0:=by omega
  have hr:=lV τ n;rw[dt,if_neg h]at hk hr;have iX:Tg.wrap ((xZ τ).tmod (n+1))=(xZ τ).tmod (n+1):=a_ _ (by omega);refine aE ?_;refine ab ?_;simp only[seval,ag7,bK,c_,iX,o_];refine aT ?_;exact b8 hk
def aaA{lo hi:Int}(hT:dU Gf t N)(hτ:τ.Ok b)(hb:b<2^60)(p7:0<=lo/\lo<2^20)(HV: -1<=hi/\hi<2^20)(hk:k (iv (CF τ lo hi)) (Gf (tick τ))):ba lv S_ 23 (Gf τ) [.op t 0,iv lo,iv hi] k kp:=by
 refine bH (rs:=[.tmp 6]) (nt:=14) Tryz.f23 λhH hA=> ?_;simp only[bm,Tu];have bK:Tg.wrap (hi-lo)=hi-lo:=a_ _ (by omega);have hr:=lV τ (hi-lo);have c_:Tg.wrap (lo+dt τ (hi-lo))=lo+dt τ (hi-lo):=a_ _ (by omega);refine ah ?_;refine ab ?_;simp only[seval,bK];refine aG (pP hT hτ hb (by omega) ?_);(try simp only[seval,c_]);refine aT ?_;exact b8 hk
def G9{n:Int}(hT:dU Gf t N)(hτ:τ.Ok b)(hb:b<2^60)(hn:0<=n/\n<2^20)(hk:k (bv (asi τ n)) (Gf (tick τ))):ba lv S_ 46 (Gf τ) [.op t 0,iv n] k kp:=by
 refine bH (rs:=[.tmp 4]) (nt:=10) Tryz.f46 λhH hA=> ?_;simp only[bm,Tu];have bK:Tg.wrap (n-1)=n-1:=a_ _ (by omega);refine ah ?_;refine ab ?_;simp only[seval,bK];refine aG (pP hT hτ hb (by omega) ?_);(try simp only[seval]);refine aT ?_;exact b8 hk
end
def uI{α:Type}{xs:List α}{i:Nat}{x:α}(h:xs[i]?=some x):x∈xs:=T8 h
def rW (xs:SD)(n:Int):Int:=if n∈xs then(xs.idxOf n:Int)else -1
def acK{n:Int}:∀{xs:SD}{i:Nat},xs[i]?=some n->n∉xs.take i->xs.idxOf n=i
 |[],i,h,_=>by cases h
 |x::xs,0,h,_=>by cases h;simp
 |x::xs,i+1,h,hn=>by
  rw[Xb,Tm,not_or]at hn;have e:(x==n)=false:=beq_eq_false_iff_ne.2 λe=>hn.1 e.symm;rw[List.idxOf_cons,e,cond_false,acK (by simpa using h) hn.2]
def ahM{xs:SD}{n:Int}{i:Nat}(h:xs[i]?=some n)(hn:n∉xs.take i):rW xs n=i:=by
 rw[rW,if_pos (uI h),acK h hn]
def GH(xs:SD)(n:Int):(0<=rW xs n<->n∈xs)/\(∀i:Nat,rW xs n=i->xs[i]?=some n)/\ -1<=rW xs n:=by
 unfold rW;split
 ·rename_i h;refine⟨⟨λ_=>h,λ_=>by omega⟩,λi hi=> ?_,by omega⟩;obtain rfl:xs.idxOf n=i:=by omega
  have hlt:=List.idxOf_lt_length_of_mem h;rw[Tw hlt,List.getElem_idxOf hlt]
 ·rename_i h;exact⟨⟨λe=>by omega,λe=>absurd e h⟩,λi hi=>by omega,by omega⟩
section
variable {lv:Bool}{H:SA}{k kp:SF}
def aaB{xs:SD}{n:Int}{e:End}(hl:xs.length<2^30)(hk:k (iv (rW xs n)) H):ba lv S_ 27 H [.sl xs.length (xs.map iv) e,iv n] k kp:=by
 refine bH (rs:=[.tmp 4]) (nt:=19) Tryz.f27 λhH hA=> ?_;simp only[bm,Tu];refine ah ?_;refine ah ?_;refine bF ?_;refine pL xs.length (λi:Nat=>[(5,iv i)]) (λ_=>_) (λi=>n∉xs.take i) (by simp) (λbz bE i ce hi R hR=> ?_);clear bz bE;refine ah ?_;refine aB ?_;refine⟨λh=> ?_,λh=> ?_⟩
 ·have bk:i<xs.length:=by omega
  obtain⟨y,hy⟩:=bA bk;have bK:Tg.wrap ((i:Int)+1)=i+1:=a_ _ (by omega);refine aE ?_;refine ab ?_;simp only[seval,dp hy,jx bk];refine aB ?_;refine⟨λh2=> ?_,λh2=> ?_⟩
  ·have h2:y=n:=(by simpa using h2);subst h2;refine ah ?_;refine aT ?_;rw[ahM hy hi]at hk;exact b8 hk
  ·have h2:¬y=n:=(by simpa using h2);refine aE ?_;refine ab ?_;simp only[seval,bK];refine hR _ ⟨bk,λhm=> ?_,bX⟩;obtain⟨hj,hle⟩:=Tq.1 hy;rw[Wx hj,hle]at hm;rcases Tv.1 hm with hm|hm
   ·exact hi hm
   ·exact h2 (Ub.1 hm).symm
 ·have jl:i=xs.length:=by omega
  subst jl;rw[Un]at hi;refine bD ?_;refine ah ?_;refine aT ?_;rw[rW,if_neg hi]at hk;exact b8 hk
def akw{xs:SD}{n:Int}{e:End}(hl:xs.length<2^30)(hk:∀v:Int,(0<=v<->n∈xs)->(∀i:Nat,v=i->xs[i]?=some n)-> -1<=v->k (iv v) H):ba lv S_ 27 H [.sl xs.length (xs.map iv) e,iv n] k kp:=aaB hl (hk _ (GH xs n).1 (GH xs n).2.1 (GH xs n).2.2)
inductive rS:List AV->List AV->Prop
 |nil:rS [] []
 |cons {a b:AV} {l m:List AV} (h:Wk a b) (t:rS l m):rS (a::l) (b::m)
def rS.len{l m:SC}(h:rS l m):l.length=m.length:=by
 induction h with
 |nil=>rfl
 |cons _ _ ih=>simp[ih]
def rS.at{l m:SC}(h:rS l m):∀(i:Nat)(a b:AV),m[i]?=some a->l[i]?=some b->Wk b a:=by
 induction h with
 |nil=>intro i a b h;simp at h
 |cons h _ ih=>
  intro i a b h1 h2
  match i with
  |0=>cases h1;cases h2;exact h
  |i+1=>exact ih i a b h1 h2
def QC{l l':SC}(h:rS l l'):Wk (.agg l) (.agg l'):=λE v hd=>by
 cases hd with
 |agg hs h1=>
  refine .agg (by rw[hs,h.len]) λi x hx=> ?_;obtain⟨y,hy⟩:=bA (xs:=l) (i:=i) (by rw[h.len];exact e_ hx);exact h.at i x y hx hy E _ (h1 i y hy)
def Ap{n:Nat}{l l':SC}{e:End}(hl:l.length=l'.length)(h:∀(i:Nat) a b,l'[i]?=some a->l[i]?=some b->Wk b a):Wk (.sl n l e) (.sl n l' e):=λE v hd=>by
 cases hd with
 |sl b o cap f hc he h1 h2=>
  refine .sl b o cap f hc he (λi hi=>h1 i (by omega)) λi x hx=> ?_;obtain⟨y,hy⟩:=bA (xs:=l) (i:=i) (by have:=e_ hx;omega);exact h i x y hx hy E _ (h2 i y hy)
 |nil he=>
  have:l'=[]:=VG hl.symm;subst this;exact .nil he
def avj{a b c:AV}(h:Wk a b)(k:Wk b c):Wk a c:=λE v hd=>k E v (h E v hd)
def QD{n:Nat}{l l':SC}{e:End}(h:rS l l'):Wk (.sl n l e) (.sl n l' .shut):=avj (Ap h.len h.at) (ff _ _ _)
def z9:(1<=2^24)=True:=by simp
def BD{H L:SA}(h:bJ H)(hL:∀z∈L,∀n,e9 n z):bJ (H++L):=λz hz=>by
 rcases Tv.1 hz with h'|h'
 ·exact(h z h').mono (by simp)
 ·exact hL z h' _
def qy{base Vi Vn T:SH}{H H':SA}(G:SA)(hk:tI T (Vi++base) Vn)(hv:∀p∈Vn,∃b,look T p.1=some b/\Wk b p.2)(aq:bJ H)(hlt:∀p∈Vn,Lt H.length p.2)(hG:H'=H++G):rQ base Vi Vn H ⟨T,H'⟩:=⟨hk,hv,G,hG,.inr ⟨aq,hlt⟩⟩
def auy{xs ys:SD}{i:Nat}{x y:Int}(hx:xs[i]?=some x)(hy:ys[i]?=some y)(h:xs.take i=ys.take i)(e:x=y):xs.take (i+1)=ys.take (i+1):=by
 obtain⟨hj,rfl⟩:=Tq.1 hx;obtain⟨hk,rfl⟩:=Tq.1 hy;rw[Wx hj,Wx hk,h,e]
def vt{xs ys:SD}{e e':End}(hx:xs.length<2^60)(hk:k (bv (decide (xs=ys))) H):ba lv S_ 20 H [.sl xs.length (xs.map iv) e,.sl ys.length (ys.map iv) e'] k kp:=by
 refine bH (rs:=[.tmp 4]) (nt:=26) Tryz.f20 λhH hA=> ?_;simp only[bm,Tu];refine ah ?_;refine ah ?_;refine aB ?_;refine⟨λh=> ?_,λh=> ?_⟩
 ·have h:xs≠ys:=λe=>by subst e;simp at h
  refine ah ?_;refine aT ?_;rw[decide_eq_false h]at hk;exact b8 hk
 ·have h:xs.length=ys.length:=by
   have h:(xs.length:Int)=ys.length:=(by simpa using h);omega
  refine aE ?_;refine ah ?_;refine bF ?_;refine pL xs.length (λi:Nat=>[(5,iv i)]) (λ_=>_) (λi=>xs.take i=ys.take i) (by simp) (λbz bE i ce hi R hR=> ?_);refine ah ?_;refine aB ?_;refine⟨λh2=> ?_,λh2=> ?_⟩
  ·have hlt:i<xs.length:=(by omega);obtain⟨x,EV⟩:=bA hlt;obtain⟨y,wa⟩:=bA (xs:=ys) (i:=i) (by omega);refine aE ?_;refine bF ?_;refine eA 8 ?_;simp only[seval,dp EV,dp wa,jx hlt,jx (e_ wa)];refine aB ?_;refine⟨λh3=> ?_,λh3=> ?_⟩
   ·have h3:xs≠ys:=λe=>(by subst e;rw[EV]at wa;cases wa;simp at h3);refine ah ?_;refine aT ?_;rw[decide_eq_false h3]at hk;exact b8 hk
   ·have h3:x=y:=(by simpa using h3);refine aE ?_;refine ah ?_;refine hR _ ⟨hlt,auy EV wa hi h3,?_⟩;rw[a_ _ (by omega)];exact bX
  ·have jl:i=xs.length:=(by omega);refine bD ?_;refine ah ?_;refine aT ?_;have h3:xs=ys:=by
    rw[jl,Un]at hi;rw[hi,h,Un]
   rw[decide_eq_true h3]at hk;exact b8 hk
end
def ez (x:ak)(deep:Int)(D:Kn):Prop:=∃(p:Nat)(js:SE),x.am=p/\js.Perm (T1 (p+1))/\nH x deep js D/\bP D
def s_(x:ak):∀a∈x.l,a.leaf=true:=λa ha=>by
 simp only[ak.l,Tm,T7,or_false]at ha;rcases ha with rfl|rfl|rfl|rfl|rfl|rfl<;>rfl
section
variable {H:SA}{k kp:SF}
def GG{lv:Bool}:QV lv H (.fn (.func 52) [] []) true:=λL k kp hk=>cP (akM hk)
def akt{x:ak}(hx:x.Ok)(hm:H[0]?=some .main)(hk:∀D,ez x 0 D->k (.aL [iv (if D.has then(D.aM.length:Int)else 0),iv 0]) H):ba true S_ 21 H [x.av] k kp:=by
 refine bH (rs:=[.tmp 2,.tmp 3]) (nt:=19) Tryz.f21 λhH hA=> ?_;simp only[bm,Tu,ak.av];have hp:=hx.am;obtain⟨p,fU⟩:∃p:Nat,x.am=p:=⟨x.am.toNat,by omega⟩;refine ah ?_;refine ab ?_;simp only[seval,TP,TQ,TR];refine aG (xd (x:=x) hx fU (fH hm) GG (λh=>by cases h) λ_ js D L mp gR iN di q_ hg=> ?_);have kC:ez x 0 D:=⟨p,js,fU,gR,iN,di⟩;have eP:=Kn.len di mp;have iU:=sT D mp;obtain⟨B,hB⟩:∃B,B=H++[aa.cells x.l 26]++L:=⟨_,rfl⟩;rw[<- hB]at hg⊢;(try simp only[seval,ak.av,TQ,eP]);refine⟨s_ x,iU,?_⟩;have eI:∀(L':SA)(n:Int),k (.aL [iv n,iv 0]) H->cz H.length (B++L') (.aL [iv n,iv 0]) k:=λL' n h=>by
  rw[hB,Te,Te];exact f_ hH (Wk.refl _) (by simp[iF,dj]) h
 have nj:∀(L':SA),(B++L')[B.length+1]?=L'[1]?:=λL'=>aW B L' 1;have sA:∀(L':SA),(B++L')[mp]?=some (.obj (.map (D.aM.zipIdx.map dS).toArray D.aM.length)):=λL'=>fH hg;have cm:(D.l mp).drop 1=.mp mp::((D.l mp).drop 2):=rfl;have aI:=hk D kC;cases hh:D.has with
 |false=>
  have hE:dN D=11:=by rw[dN,hh];rfl
  rw[hh]at aI;refine ab ?_;simp only[seval,hE,show ((11:Int)==11)=true from rfl];refine aB ?_;refine ah ?_;refine aT ?_;exact eI _ 0 aI
 |true=>
  have hE:dN D=0:=by rw[dN,hh];rfl
  rw[hh]at aI;refine ab ?_;simp only[seval,hE,show ((0:Int)==11)=false from rfl];refine aB ?_;refine aE ?_;refine ab ?_;simp only[seval,nj,cm,sA];have aZ:(D.aM.zipIdx.map dS).toArray.size=D.aM.length:=by simp
  rw[agD _ _ _ _ _ F.QX (sA _),aZ];refine aT ?_;exact eI _ _ aI
end
namespace Tk
def vM (some other:Bool):Int:=if some&&other then 3 else if some then 1 else 2
end Tk
open Go.Conc Go.Proofs Go.Gg.Tk
section
variable {lv:Bool}{H:SA}{k kp:SF}
def akR{D:Kn}{mp a b:Nat}(hD:bP D)(ha:a<4)(hb:b<4)(hk:k (iv (vM ((D.less.getD a 0).testBit b) ((D.less.getD b 0).testBit a))) H):ba lv S_ 60 H [.agg (D.l mp),.da 116 (.agg [iv a,iv b])] k kp:=by
 refine bH (rs:=[.tmp 4]) (nt:=65) axO λhH hA=> ?_;simp only[bm,Tu];have eP:=Kn.len hD mp;obtain⟨u,hu⟩:=bA (xs:=D.less) (i:=a) (by rw[hD.less];exact ha);obtain⟨v,hv⟩:=bA (xs:=D.less) (i:=b) (by rw[hD.less];exact hb);have ko:D.less.getD a 0=u:=by rw[Tf,hu];rfl
 have v8:D.less.getD b 0=v:=by rw[Tf,hv];rfl
 rw[ko,v8]at hk;have lu:=hD.mm _ (T8 hu);have lv':=hD.mm _ (T8 hv);have b4a:(0<=(a:Int)/\(a:Int)<4)=True:=by simp;omega
 have b4b:(0<=(b:Int)/\(b:Int)<4)=True:=by simp;omega
 have vL:=Kn.Fp hD (mp:=mp) hu;have Ei:=Kn.Fp hD (mp:=mp) hv;have e1:∀n:Int,[iv n].drop 0=[iv n]:=λ_=>rfl;refine ah ?_;refine ah ?_;refine ah ?_;refine ab ?_;simp only[seval,F.Ou];refine aB ?_;refine ah ?_;refine eA 15 ?_;simp only[seval,TP,TS,b4a,b4b,vL,Ei];refine fE (bv (u.testBit b)) (cP (vu lu ⟨rfl,rfl⟩)) ?_;refine aG (vu lv' ?_);(try simp only[seval]);have fin:∀(L:SA)(n:Int),vM (u.testBit b) (v.testBit a)=n->cz H.length (H++L) (iv n) k:=λL n h=>by rw[h]at hk;exact jg hH hk
 generalize u.testBit b=s1 at fin⊢;generalize v.testBit a=s2 at fin⊢;cases s1<;>cases s2
 all_goals
  refine ah ?_;refine bF ?_;refine bF ?_;refine bF ?_;refine ah ?_;refine aB ?_
 ·refine aE ?_;refine ah ?_;refine aB ?_;refine bD ?_;refine ah ?_;refine ah ?_;refine bD ?_;refine ah ?_;refine aT ?_;exact fin _ 2 rfl
 ·refine aE ?_;refine ah ?_;refine aB ?_;refine bD ?_;refine ah ?_;refine ah ?_;refine bD ?_;refine ah ?_;refine aT ?_;exact fin _ 2 rfl
 ·refine aE ?_;refine ah ?_;refine aB ?_;refine aE ?_;refine bD ?_;refine ah ?_;refine bD ?_;refine ah ?_;refine aT ?_;exact fin _ 1 rfl
 ·refine bD ?_;refine ah ?_;refine ah ?_;refine ah ?_;refine bD ?_;refine ah ?_;refine aT ?_;exact fin _ 3 rfl
def akS{D:Kn}{mp s q:Nat}(hD:bP D)(hs:s<3)(hq:q<4)(hk:k (iv (vM ((D.aY.getD s 0).testBit q) (D.aY.getD s 0!=2^q))) H):ba lv S_ 60 H [.agg (D.l mp),.da 97 (.agg [iv s,iv q])] k kp:=by
 refine bH (rs:=[.tmp 4]) (nt:=65) axO λhH hA=> ?_;simp only[bm,Tu];have eP:=Kn.len hD mp;obtain⟨u,hu⟩:=bA (xs:=D.aY) (i:=s) (by rw[hD.aY];exact hs);have ko:D.aY.getD s 0=u:=by rw[Tf,hu];rfl
 rw[ko]at hk;have lu:=hD.mq _ (T8 hu);have b3:(0<=(s:Int)/\(s:Int)<3)=True:=by simp;omega
 have vL:=Kn.FL hD (mp:=mp) hu;refine ah ?_;refine ah ?_;refine ah ?_;refine ab ?_;simp only[seval,F.Ou];refine aB ?_;refine ab ?_;simp only[seval,F.acP];refine aB ?_;refine ah ?_;refine eA 18 ?_;simp only[seval,TP,TS,b3,vL];refine fE (bv (u.testBit q)) (cP (vu lu ⟨rfl,rfl⟩)) ?_;refine fE (wv (2^q)) (cP (vv (m:=0) (by decide) (show q<16 by omega) ⟨by rw[Nat.zero_or],rfl⟩)) ?_;have aF:((u:Int)!=((2^q:Nat):Int))=(u !=2^q):=by
  rw[Vh,bne_iff_ne,bne_iff_ne];exact not_congr axb
 rw[show wv u=AV.val (.int .u16 (u:Int))from rfl,show wv (2^q)=AV.val (.int .u16 ((2^q:Nat):Int))from rfl,Q8,aF];have fin:∀(L:SA)(n:Int),vM (u.testBit q) (u !=2^q)=n->cz H.length (H++L) (iv n) k:=λL n h=>by rw[h]at hk;exact jg hH hk
 generalize u.testBit q=s1 at fin⊢;generalize(u !=2^q)=s2 at fin⊢;cases s1<;>cases s2
 all_goals
  refine ah ?_;refine bF ?_;refine bF ?_;refine bF ?_;refine ah ?_;refine aB ?_
 ·refine aE ?_;refine ah ?_;refine aB ?_;refine bD ?_;refine ah ?_;refine ah ?_;refine bD ?_;refine ah ?_;refine aT ?_;exact fin _ 2 rfl
 ·refine aE ?_;refine ah ?_;refine aB ?_;refine bD ?_;refine ah ?_;refine ah ?_;refine bD ?_;refine ah ?_;refine aT ?_;exact fin _ 2 rfl
 ·refine aE ?_;refine ah ?_;refine aB ?_;refine aE ?_;refine bD ?_;refine ah ?_;refine bD ?_;refine ah ?_;refine aT ?_;exact fin _ 1 rfl
 ·refine bD ?_;refine ah ?_;refine ah ?_;refine ah ?_;refine bD ?_;refine ah ?_;refine aT ?_;exact fin _ 3 rfl
def arm{x:ak}{q:Nat}(hq:q<x.pieces.length):wy x [(q:Int)]=true:=by
 unfold wy;simp;omega
def akQ{x:ak}{s q ir ip is:Nat}(hx:x.Ok)(hs:s<x.aC.length)(hq:q<x.pieces.length)(hr:H[ir]?=some (.cells x.l 26))(h1:H[ip]?=some (.cells [iv q] 3))(h2:H[is]?=some (.cells [iv s] 3))(hk:k (bv true) H):ba lv S_ 57 H [.op ir 0,.op ip 0,.op is 0] k kp:=by
 refine bH (rs:=[.tmp 3]) (nt:=18) Tryz.f57 λhH hA=> ?_;simp only[bm,Tu];have aP:=hx.dC;have aq:=arm hq;have hw:Tg.wrap ((x.aC.length:Int)-1)=(x.aC.length:Int)-1:=a_ _ (by omega);have ce:(decide ((s:Int)<0)||decide ((s:Int)>(x.aC.length:Int)-1))=false:=by simp;omega
 refine ah ?_;refine ab ?_;simp only[seval,z1,hr,h1,TQ,TR];(try refine⟨by decide,?_⟩);refine aG (Ha (x:=x) (ns:=[(q:Int)]) (e:=.exact) ?_);(try simp only[seval]);refine aG (Hd (x:=x) (ns:=[(q:Int)]) (e:=.exact) hx (by simp) (by rw[TS];rfl) (by rw[TP];rfl) ?_);(try simp only[seval,aq,fH hr,fH h2,TO,aR,hw]);refine aG (sd ?_);(try simp only[seval,ce]);refine aT ?_;exact jg hH hk
def aky{x:ak}{s q:Nat}(hx:x.Ok)(hs:s<x.aC.length)(hq:q<x.pieces.length)(hm:H[0]?=some .main)(hk:∀D,ez x 2 D->k (.aL [iv (if D.has then vM ((D.aY.getD s 0).testBit q) (D.aY.getD s 0!=2^q)else 0),iv (dN D)]) H):ba true S_ 28 H [x.av,iv s,iv q] k kp:=by
 refine bH (rs:=[.tmp 6,.tmp 7]) (nt:=27) Tryz.f28 λhH hA=> ?_;simp only[bm,Tu,ak.av];have hp:=hx.am;obtain⟨p,fU⟩:∃p:Nat,x.am=p:=⟨x.am.toNat,by omega⟩;refine ah ?_;refine ab ?_;simp only[seval,TP,TQ,TR,Vb,VH,Vk,UX];refine aG (xd (x:=x) (b:=true) hx fU (fH hm) (λL k kp hk=>cP (akQ hx hs hq (by rw[Te,TP];rfl) (by rw[Te,TU];rfl) (by rw[Te,TS];rfl) hk)) (λh=>by cases h) λ_ js D L mp gR iN di q_ hg=> ?_);have kC:ez x 2 D:=⟨p,js,fU,gR,iN,di⟩;have eP:=Kn.len di mp;have iU:=sT D mp;obtain⟨Y,hY⟩:∃Y:SA,Y=[aa.cells x.l 26,.cells [iv s] 3,.cells [iv q] 3]++L:=⟨_,rfl⟩;obtain⟨B,hB⟩:∃B,B=H++Y:=⟨_,rfl⟩;have nZ:H++[aa.cells x.l 26,.cells [iv s] 3,.cells [iv q] 3]++L=B:=by rw[hB,hY,Te]
 have nj:∀(L':SA),(B++L')[B.length+1]?=L'[1]?:=λL'=>aW B L' 1;have HK:∀(L':SA),(B++L')[H.length+1]?=some (.cells [iv s] 3):=λL'=>by rw[hB,hY,Te,TS];rfl
 have oV:∀(L':SA),(B++L')[H.length+2]?=some (.cells [iv q] 3):=λL'=>by rw[hB,hY,Te,TU];rfl
 have aI:=hk D kC;have eI:∀(L':SA)(n m:Int),k (.aL [iv n,iv m]) H->cz H.length (B++L') (.aL [iv n,iv m]) k:=λL' n m h=>by
  rw[hB,Te];exact f_ hH (Wk.refl _) (by simp[iF,dj]) h
 rw[nZ];clear nZ hg hB;(try simp only[seval,ak.av,TQ,eP]);refine⟨s_ x,iU,?_⟩;cases hh:D.has with
 |false=>
  have hE:dN D=11:=by rw[dN,hh];rfl
  rw[hE,hh]at aI;refine ab ?_;simp only[seval,hE,show ((11:Int)!=0)=true from rfl];refine aB ?_;refine ah ?_;refine aT ?_;exact eI _ 0 11 aI
 |true=>
  have hE:dN D=0:=by rw[dN,hh];rfl
  rw[hE,hh]at aI;refine ab ?_;simp only[seval,hE,show ((0:Int)!=0)=false from rfl];refine aB ?_;refine aE ?_;refine ab ?_;simp only[seval,F.acP,nj,HK,oV,eP];rw[Tx (i:=28) (by rw[eP];exact Ts _)];refine aG (akS (s:=s) (q:=q) di (by have:=hx.dC;omega) (by have:=hx.dQ;omega) ?_);(try simp only[seval]);refine aT ?_;exact eI _ _ 0 aI
end
def z2:gZ (Th .i64 0) 2=[iv 0,iv 0]:=rfl
section
variable {H:SA}{k kp:SF}
def akH{x:ak}{a b:Nat}(hx:x.Ok)(ha:a<x.pieces.length)(hb:b<x.pieces.length)(hm:H[0]?=some .main)(h0:a=b->k (.aL [iv 0,iv 8]) H)(hk:a≠b->∀D,ez x 1 D->k (.aL [iv (if D.has then vM ((D.less.getD a 0).testBit b) ((D.less.getD b 0).testBit a)else 0),iv (dN D)]) H):ba true S_ 42 H [x.av,iv a,iv b] k kp:=by
 refine bH (rs:=[.tmp 6,.tmp 7]) (nt:=42) Tryz.f42 λhH hA=> ?_;simp only[bm,Tu,ak.av];have hp:=hx.am;have lJ:=hx.dQ;obtain⟨p,fU⟩:∃p:Nat,x.am=p:=⟨x.am.toNat,by omega⟩;have aq:wy x [(a:Int),(b:Int)]=true:=by unfold wy;simp;omega
 refine ah ?_;refine ab ?_;simp only[seval,TP,TQ,TR];refine aG (Hb (x:=x) hx ?_);(try simp only[seval]);refine ab ?_;simp only[seval,show ((0:Int)!=0)=false from rfl];refine aB ?_;refine aE ?_;refine ab ?_;simp only[seval,TP,TQ,TR,z2];(try refine⟨by decide,?_⟩);refine aG (Ha (x:=x) (ns:=[(a:Int),(b:Int)]) (e:=.exact) ?_);(try simp only[seval]);refine aG (Hd (x:=x) (ns:=[(a:Int),(b:Int)]) (e:=.exact) (il:=H.length+2) (ir:=H.length+1) hx (by simp) (by rw[TU];rfl) (by rw[TS];rfl) ?_);(try simp only[seval,aq]);refine aB ?_;refine aE ?_;by_cases eQ:a=b
 ·have h1:((a:Int)==(b:Int))=true:=by rw[eQ];simp
  refine ab ?_;simp only[seval,h1];refine aB ?_;refine ah ?_;refine aT ?_;exact f_ hH (Wk.refl _) (by simp[iF,dj]) (h0 eQ)
 ·have h1:((a:Int)==(b:Int))=false:=by rw[beq_eq_false_iff_ne];exactλe=>eQ (axb.1 e)
  refine ab ?_;simp only[seval,h1];refine aB ?_;refine aE ?_;refine ab ?_;simp only[seval,TP,TQ,TR];refine aG (xd (x:=x) hx fU (fH hm) GG (λh=>by cases h) λ_ js D L mp gR iN di q_ hg=> ?_);have kC:ez x 1 D:=⟨p,js,fU,gR,iN,di⟩;have eP:=Kn.len di mp;have iU:=sT D mp;have aI:=hk eQ D kC;obtain⟨Y,hY⟩:∃Y:SA,Y=[aa.cells x.l 26,.cells x.l 26,.cells [.sl 2 [iv a,iv b] .exact] 22]++L:=⟨_,rfl⟩;obtain⟨B,hB⟩:∃B,B=H++Y:=⟨_,rfl⟩;have nZ:H++[aa.cells x.l 26,.cells x.l 26,.cells [.sl 2 [iv a,iv b] .exact] 22]++L=B:=by rw[hB,hY,Te]
  have nj:∀(L':SA),(B++L')[B.length+1]?=L'[1]?:=λL'=>aW B L' 1;have eI:∀(L':SA)(n m:Int),k (.aL [iv n,iv m]) H->cz H.length (B++L') (.aL [iv n,iv m]) k:=λL' n m h=>by
   rw[hB,Te];exact f_ hH (Wk.refl _) (by simp[iF,dj]) h
  rw[nZ];clear nZ hg hB;(try simp only[seval,ak.av,TQ,eP]);refine⟨s_ x,iU,?_⟩;cases hh:D.has with
  |false=>
   have hE:dN D=11:=(by rw[dN,hh];rfl);rw[hE,hh]at aI;refine ab ?_;simp only[seval,hE,show ((11:Int)!=0)=true from rfl];refine aB ?_;refine ah ?_;refine aT ?_;exact eI _ 0 11 aI
  |true=>
   have hE:dN D=0:=(by rw[dN,hh];rfl);rw[hE,hh]at aI;refine ab ?_;simp only[seval,hE,show ((0:Int)!=0)=false from rfl];refine aB ?_;refine aE ?_;refine ab ?_;simp only[seval,F.Ou,nj,eP];rw[Tx (i:=28) (by rw[eP];exact Ts _)];refine aG (akR (a:=a) (b:=b) di (by omega) (by omega) ?_);(try simp only[seval]);refine aT ?_;exact eI _ _ 0 aI
end
namespace Tk
structure fF where
 lo:Int
 hi:Int
 is:Bool
def fF.add (b:fF)(v:Int):fF:=if b.is then⟨min b.lo v,max b.hi v,true⟩else⟨v,v,true⟩
end Tk
def Tk.fF.l (b:fF):SC:=[iv b.lo,iv b.hi,bv b.is]
section
variable {lv:Bool}{H:SA}{k kp:SF}
def aaL{b:fF}{v:Int}{i:Nat}(hi:H[i]?=some (.cells b.l 112))(hk:k (.aL []) (H.set i (.cells (b.add v).l 112))):ba lv S_ 74 H [.op i 0,iv v] k kp:=by
 refine bH (rs:=[]) (nt:=38) Tryz.f74 λhH hA=> ?_;simp only[bm,Tu];have bk:=e_ hi;obtain⟨hp,dh⟩:∃hp:SC->SA,∀l,hp l=H.set i (.cells l 112):=⟨_,λ_=>rfl⟩;have h0:H=hp b.l:=by rw[dh];exact(rE hi).symm
 have hg:∀l,(hp l)[i]?=some (.cells l 112):=λl=>by rw[dh,VT,if_pos rfl,if_pos bk]
 have hs:∀l l',(hp l).set i (.cells l' 112)=hp l':=λl l'=>by rw[dh,dh,Ya]
 have fin:∀(N:Nat)(l:SC),l=(b.add v).l->cz N (hp l) (.aL []) k:=λN l e=>by
  rw[e,dh];exact b8 hk
 rw[h0];clear hH hA dh h0 hi hk;refine ab ?_;simp only[seval,hg,fF.l];refine aB ?_;refine⟨λh=> ?_,λh=> ?_⟩
 ·have hb:b.is=false:=by simpa using h
  refine ab ?_;simp(maxSteps:=4000000) only[seval,hg,hs];refine lY [16,19] (T1 20) (λD=>bif isDone 19 D then hp [iv (min v v),iv (max v v),bv true]else bif isDone 16 D then hp [iv (min v v),iv v,bv true]else hp [iv v,iv v,bv true]) ?_;simp only[seval,hg,hs];have m1:(if v<v then v else v)=v:=by split<;>rfl
  have m2:min v v=v:=by omega
  have m3:max v v=v:=by omega
  rw[m1,m2,m3];exact⟨rfl,rfl,fin _ _ (by rw[fF.add,if_neg (by rw[hb];decide)];rfl)⟩
 ·have hb:b.is=true:=by simpa using h
  refine aE ?_;refine lY [16,19] (T1 20) (λD=>bif isDone 19 D then hp [iv (min b.lo v),iv (max b.hi v),bv b.is]else bif isDone 16 D then hp [iv (min b.lo v),iv b.hi,bv b.is]else hp [iv b.lo,iv b.hi,bv b.is]) ?_;simp only[seval,hg,hs];have m1:(if v<b.lo then v else b.lo)=min b.lo v:=by split<;>omega
  have m2:(if b.hi<v then v else b.hi)=max b.hi v:=by split<;>omega
  rw[m1,m2];exact⟨rfl,rfl,fin _ _ (by rw[fF.add,if_pos hb,hb];rfl)⟩
end
open Go.Conc Go.Proofs Go.Gg.Tk
namespace Tk
def w6 (hour:Nat)(hs:SO):fF:=hs.foldl (λb h=>b.add (h.getD hour 0)) ⟨0,0,false⟩
end Tk
section
variable {lv:Bool}{H:SA}{k kp:SF}
def akW{x:ak}{hour:Nat}{ih ir:Nat}(hh:(hour:Int)<=x.hours)(h1:H[ih]?=some (.cells [iv hour] 3))(hr:H[ir]?=some (.cells x.l 26))(hk:k (bv true) H):ba lv S_ 73 H [.op ih 0,.op ir 0] k kp:=by
 refine bH (rs:=[.tmp 2]) (nt:=8) Tryz.f73 λhH hA=> ?_;simp only[bm,Tu];have ce:(decide ((hour:Int)<0)||decide ((hour:Int)>x.hours))=false:=by simp;omega
 refine ah ?_;refine ab ?_;simp only[seval,h1,hr,TO];refine aG (sd ?_);(try simp only[seval,ce]);refine aT ?_;exact b8 hk
def Tb{H:List aa}:∀(L:SA)(y:aa),(H++L).set (H.length+2) y=H++L.set 2 y:=λL y=>dB H L 2 y
def akC{x:ak}{hour:Nat}(hx:x.Ok)(hh:(hour:Int)<=x.hours)(hm:H[0]?=some .main)(hk:∀D,ez x 0 D->(D.has=false->k (.aL [.agg [iv 0,iv 0],iv 11]) H)/\(D.has=true->∀hs:SO,hs.Perm D.aM->k (.aL [.agg [iv (w6 hour hs).lo,iv (w6 hour hs).hi],iv 0]) H)):ba true S_ 36 H [x.av,iv hour] k kp:=by
 refine bH (rs:=[.cell 4 46,.tmp 5]) (nt:=41) Tryz.f36 λhH hA=> ?_;simp only[bm,Tu,ak.av];have hp:=hx.am;have um:=hx.hours;obtain⟨p,fU⟩:∃p:Nat,x.am=p:=⟨x.am.toNat,by omega⟩;refine ah ?_;refine ab ?_;simp only[seval,TP,TQ,TR,Vb,VH,Vk,UX];refine aG (xd (x:=x) (b:=true) hx fU (fH hm) (λL k kp hk=>cP (akW hh (by rw[Te,TS];rfl) (by rw[Te,TP];rfl) hk)) (λh=>by cases h) λ_ js D L mp gR iN di q_ hg=> ?_);have kC:ez x 0 D:=⟨p,js,fU,gR,iN,di⟩;have eP:=Kn.len di mp;have iU:=sT D mp;obtain⟨gT,cp⟩:=hk D kC;obtain⟨Bf,j9⟩:∃Bf:SC->SA,∀l,Bf l=H++([aa.cells x.l 26,.cells [iv hour] 3,.cells l 46]++L):=⟨_,λ_=>rfl⟩;have nZ:H++[aa.cells x.l 26,.cells [iv hour] 3,.cells [iv 0,iv 0] 46]++L=Bf [iv 0,iv 0]:=by rw[j9,Te]
 obtain⟨N,hN⟩:∃N,N=H.length+3+L.length:=⟨_,rfl⟩;have c9:∀l,(Bf l).length=N:=λl=>by rw[j9,hN];simp;omega
 have b1:∀l (L':SA),(Bf l++L')[H.length+1]?=some (.cells [iv hour] 3):=λl L'=>by rw[j9,Te,TS];rfl
 have b2:∀l (L':SA),(Bf l++L')[H.length+2]?=some (.cells l 46):=λl L'=>by rw[j9,Te,TU];rfl
 have pM:∀l l' (L':SA),(Bf l++L').set (H.length+2) (.cells l' 46)=Bf l'++L':=λl l' L'=>by rw[j9,Te,Tb,j9];simp
 have bn:∀l (L':SA)(j:Nat),(Bf l++L')[N+j]?=L'[j]?:=λl L' j=>by rw[<- c9 l,aW]
 have rY:∀l (L':SA)(j:Nat)(y:aa),(Bf l++L').set (N+j) y=Bf l++L'.set j y:=λl L' j y=>by rw[<- c9 l,dB]
 rw[nZ]at hg⊢;have eI:∀(l:SC)(L':SA)(a b:Int)(m:Int),k (.aL [.agg [iv a,iv b],iv m]) H->cz H.length (Bf l++L') (.aL [.agg [iv a,iv b],iv m]) k:=λl L' a b m h=>by
  rw[j9,Te];exact f_ hH (Wk.refl _) (by simp[iF,dj,qp]) h
 (try simp only[seval,ak.av,TQ,eP,c9]);refine⟨s_ x,iU,?_⟩;cases fA:D.has with
 |false=>
  have hE:dN D=11:=by rw[dN,fA];rfl
  refine ab ?_;simp only[seval,hE,show ((11:Int)!=0)=true from rfl];refine aB ?_;refine ab ?_;simp only[seval,b2,pM];refine ng ?_;simp only[seval,b2];exact eI _ _ 0 0 11 (gT fA)
 |true=>
  have hE:dN D=0:=by rw[dN,fA];rfl
  refine ab ?_;simp only[seval,hE,show ((0:Int)!=0)=false from rfl];refine aB ?_;refine aE ?_;refine ab ?_;simp only[seval,c9];refine ab ?_;simp only[seval,Vb,VH,Vk,UX];have od:(D.l mp).drop 1=.mp mp::((D.l mp).drop 2):=rfl;obtain⟨ts,dz⟩:∃ts,ts=D.aM.zipIdx:=⟨_,rfl⟩;obtain⟨ck,Br⟩:∃ck,ck=D.aM.length:=⟨_,rfl⟩;have sA:∀l (L':SA),(Bf l++L')[mp]?=some (.obj (.map (ts.map dS).toArray ck)):=λl L'=>by
   have h0:(Bf [iv 0,iv 0])[mp]?=some (setH D.aM):=hg;have aF:mp≠H.length+2:=λe=>by
    have:=b2 [iv 0,iv 0] [];rw[To,<- e,h0]at this;cases this
   have h1:(Bf l)[mp]?=some (setH D.aM):=by
    have:=pM [iv 0,iv 0] l [];rw[To,To]at this;rw[<- this,U6 (λe=>aF e.symm)];exact h0
   rw[dz,Br];exact fH h1
  have n5:∀y∈ts,y.2<ck:=λy hy=>by rw[dz]at hy;have:=List.snd_lt_add_of_mem_zipIdx hy;omega
  have xH:(ts.map (·.2)).Nodup:=by rw[dz,show (λy:SD×Nat=>y.2)=Prod.snd from rfl,List.zipIdx_map_snd];exact List.nodup_range'
  have h4:∀y∈ts,y.1.length=4:=λy hy=>by rw[dz]at hy;exact di.h4 _ (CJ hy)
  have eT:=KP ts ck n5;have BV:ts.map (·.1)=D.aM:=by rw[dz,show (λy:SD×Nat=>y.1)=Prod.fst from rfl,List.zipIdx_map_fst]
  clear dz;refine ab ?_;simp only[seval,c9,bn,od,sA];obtain⟨ec,dh⟩:∃ec:fF->Array Nat->SA,∀b sn,ec b sn=Bf [iv 0,iv 0]++[.cells x.l 76,.cells (D.l mp) 88,.cells b.l 112,.iter mp ck sn ck]:=⟨_,λ_ _=>rfl⟩;have p1:∀b sn (L':SA),(ec b sn++L')[H.length+1]?=some (.cells [iv hour] 3):=λb sn L'=>by rw[dh,Te];exact b1 _ _
  have p2:∀b sn (L':SA),(ec b sn++L')[N+2]?=some (.cells b.l 112):=λb sn L'=>by rw[dh,Te,bn];rfl
  have p3:∀b sn (L':SA),(ec b sn++L')[N+3]?=some (.iter mp ck sn ck):=λb sn L'=>by rw[dh,Te,bn];rfl
  have FI:∀b sn,(ec b sn)[N+3]?=some (.iter mp ck sn ck):=λb sn=>by have:=p3 b sn [];rwa[To]at this
  have p4:∀b sn (L':SA),(ec b sn++L')[N+4]?=L'[0]?:=λb sn L'=>by rw[dh,Te,bn];rfl
  have pm:∀b sn (L':SA),(ec b sn++L')[mp]?=some (.obj (.map (ts.map dS).toArray ck)):=λb sn L'=>by rw[dh,Te];exact sA _ _
  have z_:∀b sn,(ec b sn)[mp]?=some (.obj (.map (ts.map dS).toArray ck)):=λb sn=>by have:=pm b sn [];rwa[To]at this
  have s2:∀b sn b' (L':SA),(ec b sn++L').set (N+2) (.cells (fF.l b') 112)=ec b' sn++L':=λb sn b' L'=>by rw[dh,Te,rY,dh,Te];rfl
  have s3:∀b sn Ai,(ec b sn).set (N+3) (.iter mp ck Ai ck)=ec b Ai:=λb sn Ai=>by rw[dh,rY,dh];rfl
  have pl:∀b sn,(ec b sn).length=N+4:=λb sn=>by rw[dh];simp[c9]
  have aP:Bf [AV.val (Th Tg 0),AV.val (Th Tg 0)]++[.cells x.l 76,.cells (D.l mp) 88,.cells [AV.val (Th Tg 0),AV.val (Th Tg 0),AV.val (Yj false)] 112,.iter mp ck #[] ck]=ec ⟨0,0,false⟩ #[]:=by rw[dh];rfl
  rw[aP];have oZ:hour<4:=by omega
  have b4:(0<=(hour:Int)/\(hour:Int)<4)=True:=by simp;omega
  have PZ:∀b sn l,(ec b sn).set (H.length+2) (.cells l 46)=Bf l++[.cells x.l 76,.cells (D.l mp) 88,.cells b.l 112,.iter mp ck sn ck]:=λb sn l=>by rw[dh,pM]
  have Po:∀b sn,(ec b sn)[H.length+2]?=some (.cells [iv 0,iv 0] 46):=λb sn=>by rw[dh,b2]
  have Pn:∀b sn,(ec b sn)[N+2]?=some (.cells (fF.l b) 112):=λb sn=>by have:=p2 b sn [];rwa[To]at this
  refine bF ?_;refine yF (measure λvs:List (SD×Nat)=>ts.length-vs.length).wf (λvs=>[]) (λvs=>ec (w6 hour (vs.map (·.1))) (vs.map (·.2)).toArray) (λvs=>(vs.map (·.2)).Nodup/\∀y∈vs,y∈ts) [] (λ_ _=>rfl) (by simp) rfl (λ_ _=>by simp[pl]) ⟨by simp,by simp⟩ (λbz bE vs aq R hR=> ?_);refine ab ?_;simp only[seval,FI,z_,s3];refine⟨eT.elim .inl (λh=> .inr (.inl h)),λe he hn=> ?_,λhs=> ?_⟩
  ·obtain⟨y,hy,rfl⟩:∃y∈ts,dS y=e:=(by simpa using he);refine aB ?_;refine aE ?_;refine bF ?_;have pQ:=h4 y hy;have Eb:(dS y).born=y.2:=rfl;have hlen:(y.1.map iv).length=4:=(by simp[pQ]);have Eh:U4 4 [AV.val (Th Tg 0),AV.val (Th Tg 0),AV.val (Th Tg 0),AV.val (Th Tg 0)]=[]:=rfl;obtain⟨w,hw⟩:=bA (xs:=y.1) (i:=hour) (by omega);have zH:y.1.getD hour 0=w:=(by rw[Tf,hw];rfl);have B0:y.2∉vs.map (·.2):=(by simpa[dS]using hn);have BK:((vs.map (·.2)).toArray.push y.2)=((vs++[y]).map (·.2)).toArray:=(by simp);have MK:(w6 hour (vs.map (·.1))).add w=w6 hour ((vs++[y]).map (·.1)):=by
    unfold w6;rw[Uq,Xo];show _=fF.add _ (y.1.getD hour 0);rw[zH]
   have pc:((vs++[y]).map (·.2)).Nodup/\∀z∈vs++[y],z∈ts:=by
    refine⟨?_,λz hz=> ?_⟩
    ·rw[Uq,V_];refine⟨aq.1,by simp,λa ha b hb=> ?_⟩;simp at hb;subst hb;intro e;subst e;exact B0 ha
    ·rcases Tv.1 hz with h|h
     ·exact aq.2 z h
     ·rw[Ub.1 h];exact hy
   have Ev:vs.length<ts.length:=by
    have h1:(vs++[y]).Nodup:=B8 _ pc.1;have:=h1.length_le_of_subset pc.2;simp at this;omega
   have qa:ts.length-(vs++[y]).length<ts.length-vs.length:=(by simp;omega);have BC:∀b sn,bJ (ec b sn):=λb sn z hz=>by
    have Hx:bJ (ec ⟨0,0,false⟩ #[]):=bz;rw[pl];rw[dh]at hz;have ce:∀z,z∈ec ⟨0,0,false⟩ #[]->e9 (N+4) z:=λz hz=>by
     have:=Hx z hz;rwa[pl]at this
    rcases Tv.1 hz with h|h
    ·exact ce z (by rw[dh];exact Ul _ h)
    ·simp only[Tm,T7,or_false]at h;rcases h with rfl|rfl|rfl|rfl
     ·exact ce _ (by rw[dh];simp)
     ·exact ce _ (by rw[dh];simp)
     ·intro a ha;simp only[fF.l,Tm,T7,or_false]at ha;rcases ha with rfl|rfl|rfl<;>exact .val _
     ·show mp<N+4;have:=e_ (z_ ⟨0,0,false⟩ #[]);rwa[pl]at this
   refine ab ?_;simp only[seval,FI,z_,s3,pl,p4,Eb,Array.back?_push,LQ xH hy,Pe,pQ,hlen,Eh];refine ab ?_;simp only[seval,p1,p4,b4,ky hw];refine aG (aaL (b:=w6 hour (vs.map (·.1))) (v:=w) (i:=N+2) (p2 _ _ _) ?_);rw[s2,MK,BK];(try simp only[seval]);refine hR _ ⟨vs++[y],qa,pc,?_⟩;exact PW (jZ rfl rfl) (by simp only[seval]<;>simp[bh,Wk.refl]) (BC _ _) (by simp[dj])
  ·have lK:vs.Perm ts:=P2 aq.1 xH aq.2 λy hy=>by
    have:=hs (dS y) (by simp;exact⟨y.1,y.2,hy,rfl⟩) (n5 y hy);simpa[dS]using this
   have EF:(vs.map (·.1)).Perm D.aM:=by
    have:=lK.map (·.1);rw[BV]at this;exact this
   have aI:=cp fA _ EF;generalize xv:w6 hour (vs.map (·.1))=bv' at aI;refine aB ?_;refine bD ?_;refine ab ?_;simp only[seval,Pn,Po,PZ,fF.l,xv];refine ng ?_;simp only[seval,b2];exact eI _ _ _ _ 0 aI
end
end Go.Gg
