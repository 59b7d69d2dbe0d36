/- A part of the proof. -/
import Derived.Test.YtkanpclgnhdbiaaGreatDoorTicketWiderCard2
import Derived.Conc.CrowdStepC
import Derived.Conc.LeavingOf
import Derived.Conc.AtomicLaws
import Derived.Conc.AtomicLaws2
import Derived.Conc.MarkLaws
import Derived.Conc.SmallLaws
import Derived.Laws.LoneSync
import Derived.KernelRfl
import Derived.Test.YtkanpclgnhdbiaaGreatDoorProg
import Derived.Conc.TokenWalk
set_option linter.all false
set_option maxRecDepth 4000
set_option maxHeartbeats 4000000
open Array renaming all_eq_true_iff_forall_mem->UJ,append_assoc->Xr,empty_append->Xq,ext'->VB,getD_eq_getD_getElem?->SH,getElem?_eq_getElem->SJ,getElem?_eq_some_iff->SR,getElem?_push->Xg,getElem?_setIfInBounds->Wm,getElem?_setIfInBounds_ne->SU,getElem?_setIfInBounds_self_of_lt->S_,getElem_mem->XU,isEmpty_empty->YZ,mem_iff_getElem?->YE,replicate->TK,size->aa_
open BitVec renaming ofInt->Ui
open Bool renaming and_eq_true->Tg,eq_iff_iff->Vm,false_or->XT,not_eq_true'->TZ,not_false->YD,not_true->ai',true_or->ae'
open Classical renaming byContradiction->Tt
open Eq renaming trans->VH
open Function renaming comp_def->Yy
open Go renaming Addr->U5,CallKind->Xc,Code->T6,Deferred->UX,Event->Ur,Frame->Uc,FrameMode->U9,Func->ZQ,FuncId->TS,GStep->ZA,Goroutine->SG,IntKind->TY,Item->WS,Machine->ap_,MemOp->V_,Oper->Tu,Operand->Ti,Program->SI,ResultVar->UO,Trace->Un,Value->SO,World->To,mark->ac_,step->ab'
open Go.Conc renaming Deaf->UT,Deaf_other->atO,Good->WW,Knows->Wi,QuitsD->Y5,act?_of->ae_,casT_eq->ZY,crowd_pick->ZT,deaf_succ->Z_,finishComm_recv->Yx,finishComm_send->ad',getElem?_stand->X_,heard_old->Wo,knows_own->Zc,lt_size_of_getElem?->TG,mem_ofEvents->TL,mem_of_getElem?->XS,offersAt_of_not_blocked->UV,offersAt_parked_send->ZC,offersAt_ph->Zl,runT_crowd_spawn->Z9,seen_none->Z8,served->T7,stepG_entry->ZB,stepG_same->Xb,stepG_value->atN,touch_of->UU,woken_run->Yl
open Go.Conc.QuitsD renaming status->ZD
open Go.ConcN renaming le_sumTo->Wz,sumTo_congr->Vl
open Go.Event renaming mute->WC
open Go.Extern.Atomic renaming casT->WT,loadT->X2,storeT->XR,update->XQ
open Go.Extern.Race renaming marked->VG,none_->W5
open Go.Extern.Sync renaming semacquire->WB,semrelease->XP
open Go.GStep renaming after->T5
open Go.Goroutine.mk renaming injEq->ad_
open Go.Instr renaming loadAt->XA,sureAddr->Va
open Go.IntKind renaming i64->SD,u32->ah_,u64->Tx,wrap->Xa
open Go.MemAct renaming ofEvent->Tq
open Go.MemOp renaming ofEvents->Ta
open Go.Obj renaming deferred->atX
open Go.Op renaming intArith->atW
open Go.Operand renaming const->atV,tmp->as_
open Go.Proofs.Tryz renaming f77->XL,prog->SA
open Go.Region renaming wanted->Th
open Go.Result renaming ok->Yh
open Go.Sem renaming runT_eq->TA
open Go.Trace renaming g?->Wx
open Go.Value renaming bool->W_,chan->XO,int->SF
open Go.World renaming cell?->UA,frozen?->ZN,setChan->Wb
open Int renaming toNat_natCast->VO
open List renaming any_cons->YR,any_eq_true->UI,append_assoc->SC,append_nil->SN,cons_append->U1,drop->TR,drop_eq_nil_of_le->TW,eq_nil_of_length_eq_zero->VA,ext_getElem?->Yo,findIdx?_eq_none_iff->Ye,findIdx?_eq_some_iff_getElem->Xt,flatMap_append->Vx,foldl_append->ZL,foldl_cons->UY,forall_mem_cons->Xe,getD_eq_getElem?_getD->SE,getElem?_append_left->SX,getElem?_append_right->S9,getElem?_drop->Uo,getElem?_eq_getElem->SY,getElem?_eq_none->Uv,getElem?_eq_some_iff->SL,getElem?_map->Tm,getElem?_range->Xx,getElem?_set->UM,getElem?_set_ne->T8,getElem?_toArray->Vf,getElem_mem->Wr,getLast?_eq_some_getLast->XN,getLastD_eq_getLast?->Vh,getLast_mem->Zo,head?_append->WK,length_append->S4,length_cons->Uk,length_map->Tn,length_nil->UR,length_pos_iff->VK,length_singleton->T9,mapM_cons->Ua,mapM_nil->UC,mapM_toArray->XZ,map_append->TE,map_cons->UW,mem_append->SS,mem_append_left->Tf,mem_append_right->S0,mem_cons->SK,mem_flatMap->S6,mem_iff_getElem?->UQ,mem_map->Tl,mem_of_getElem?->Tc,mem_range->TP,mem_replicate->Xw,mem_singleton->S8,mem_toArray->TJ,nil_append->Uy,nodup_append->U7,nodup_nil->WI,nodup_range->XW,not_mem_nil->SZ,range->SV,range_succ->Vk,replicate->TF,set_append_left->US,set_cons_succ->UE,set_cons_zero->T1,set_set->W6,take->TH,take_add_one->VF,take_append_of_le_length->Tw,take_length->TO,take_of_length_le->SP,take_succ_eq_append_getElem->XI
open List.cons renaming inj->Vv
open Nat renaming add_sub_cancel_left->TU,add_zero->UD,eq_zero_or_pos->UF,le_refl->SQ,le_trans->UL,lt_of_lt_of_le->Td,lt_succ_self->Ux,reduceAdd->SW,reduceEqDiff->Zv
open Option renaming bind_eq_bind->TN,bind_eq_some_iff->Te,getD_none->Vo,getD_some->S7,map_eq_some_iff->Tp,map_some->UP,pure_def->Uj
open Option.some renaming inj->Wj,injEq->Tj
open Prod.mk renaming inj->WX,injEq->U2
namespace Go.Gg
open Go.Conc Go.ConcN
section
variable {P:SI}{n0:Nat}{W0:To}{V:View}{gs gs':Array SG}{w w':To}{sl:Option (Nat×Nat)}{t:Un}{K:Nat->GS}{Im:cm}{ic:Nat}{p:Phase}{st st':Option ec}
theorem OW{t:Un}{g i j:Nat}(hi:t.g? i=some g)(hj:t.g? j=some g)(h:i<=j):Before t i j:=by
 rcases Nat.eq_or_lt_of_le h with rfl|h
 ·exact .inl rfl
 ·obtain⟨a,ha,rfl⟩:=Tp.1 hi;obtain⟨b,hb,hg⟩:=Tp.1 hj;exact .inr (.single (.inl ⟨h,by simp[Wx,ha,hb,hg]⟩))
theorem Inv.aey(h:Inv P n0 W0 V gs w t K Im ic (some p) st)(aH:p.recv=true){n:Nat}{gi:SG}(aM:gs[ic]?=some gi)(hK:K ic=.acq n)(jv:tL P Im p.c p.Wg (UT t ic) gi):gp P n0 W0 V gs w sl t K Im ic (some p) st ic:=by
 obtain⟨s,hs,fZ,iL,hm⟩:=h.mode aH;obtain⟨m1,m2,m3,m4,m5⟩:=hm.Ox (.inr (by rw[hK];rfl));obtain⟨hd,bI,g',aR,n',cG⟩:=jv;have nu:∀e∈#[jQ (.acquire (dT p.Wg))],e=jQ (.acquire (dT p.Wg)):=λe he=>by simpa using he
 have Sq:g'.status=.running:=cO.running (λd g x=>x.2.1) cG;refine h.tF aH (k':=.look n') (s':=.got) fZ aM (aR w) (by rw[hd];exact cG) (by rw[hK];exact GD Im) (λ_=>rfl) rfl (λj hj=>by rw[hK]at hj;cases hj) (.inl rfl) (λe he x hx=> ?_) (λe he=> ?_) (λe he a=> ?_) rfl (λ_ _ _=>rfl) rfl rfl rfl
  ?_ (.inl m1) ?_ (yk iL (by rw[hK];exact .inl (by simp[GS.cZ])))
 ·rw[nu e he]at hx;cases hx
 ·rw[nu e he];exact h.low.2
 ·rw[nu e he];simp[jQ,Tq]
 ·unfold Mode;have e1:sumTo gs.size (λi=>(upd K ic (.look n') i).cnt)=0:=by rw[kZ K (.look n') GS.cnt (by rw[hK];rfl)];exact m4
  have e2:sumTo gs.size (λi=>(upd K ic (.look n') i).late)=0:=by rw[kZ K (.look n') GS.late (by rw[hK];rfl)];exact m3
  simp only[e1,e2,bw];exact .inr (.inr (.inr (.inr (.inr (.inl ⟨m1,trivial,trivial,trivial,.inl rfl⟩)))))
 ·have hr:Rest p.Wg t K ic st:=h.out.2.2.1;rw[hs,m2]at hr;rw[ofEvents_one];refine hr.app (λidx a ha hx=> .inr ?_) (λidx a _ ⟨op,az,_,hx⟩ _=> ?_)
  ·obtain⟨i,KC,eJ,hx⟩:=hx;have aku:=h.core.ti.norel;have own:t.g? idx=some ic->Wi (t++#[{g:=ic,fn:=gi.frame.fn,pos:=gi.frame.place,act:=.ofEvent (jQ (.acquire (dT p.Wg)))}]) ic idx:=λe=>by
    obtain⟨op,ho,o5⟩:=Tp.1 e;rw[<- o5];exact(Zc ho).app _
   rcases hx with hx|rfl|⟨r,rA,hle⟩
   ·exfalso;have akg:i<gs.size:=by
     obtain⟨op,ho,o5⟩:=Tp.1 KC;rw[<- o5];exact h.core.ti.gs op (XS ho)
    have gL:(K i).cnt=1:=by cases kJ:K i<;>rw[kJ]at hx<;>first|rfl|cases hx
    have hle:(K i).cnt<=sumTo gs.size λi=>(K i).cnt:=Wz (f:=λi=>(K i).cnt) akg;omega
   ·exact own KC
   ·exact aez rA.act rA.heard aku ⟨rfl,rfl⟩ hd (OW KC rA.g hle)
  ·simp only[TJ,SK,SZ,or_false]at az;subst az;cases hx
theorem Rest.got{Wg:Nat}(hr:Rest Wg t K ic (some .got)){es:Array Ur}{fn:TS}{pos:String}{K':Nat->GS}:Rest Wg (t++Ta ic fn pos es) K' ic (some .got):=by
 refine hr.app (λidx a ha hx=> .inr (Knows.app _ hx)) (λidx a _ ⟨op,az,cX,_⟩ _=> .inr (.inr ?_));obtain⟨e,_,rfl⟩:=TL az;exact Zc cX
theorem Inv.amF(h:Inv P n0 W0 V gs w t K Im ic (some p) st)(aH:p.recv=true){n:Nat}{gi:SG}(aM:gs[ic]?=some gi)(hK:K ic=.look n)(jv:H6 P Im p.c (UT t ic) gi):gp P n0 W0 V gs w sl t K Im ic (some p) st ic:=by
 obtain⟨s,hs,fZ,iL,hm⟩:=h.mode aH;obtain⟨m1,m2,m3,m4⟩:=hm.Oy (.inl (by rw[hK];rfl));obtain⟨hd,bI,b,o,x,g',lw,aR,n',cG⟩:=jv;have fj:Sat ((K ic).view Im) w:=by have:=h.core.sat ic iL;rwa [show bE V Im K ic=(K ic).view Im by simp[bE];omega]at this
 have Kg:=fj.ah b o x (by rw[hK];exact lw);have hb:=fj.CZ (show ((K ic).view Im).ah b o=some x by rw[hK];exact lw);have nu:∀e∈(#[⟨.cell ⟨b,o,none⟩,false,false⟩]:Array Ur),e=⟨.cell ⟨b,o,none⟩,false,false⟩:=λe he=>by simpa using he
 have cK:=h.blind fZ;refine h.tF aH (k':=.close n') (s':=.got) fZ aM (aR w Kg) (by rw[hd];exact cG) (by rw[hK];exact amp Im) (λ_=>rfl) rfl (λj hj=>by rw[hK]at hj;cases hj) (.inl rfl) (λe he y hy=> .inr (.inr ?_)) (λe he=> ?_) (λe he a=> ?_) rfl (λ_ _ _=>rfl) rfl rfl rfl
  ?_ (.inl m1) ?_ (yk iL (by rw[hK];exact .inl (by simp[GS.cZ])))
 ·rw[nu e he]at hy;cases hy;refine⟨λdb=> ?_,.inr (by rw[hK];show Im b o≠none;rw[lw];simp),rfl⟩;have e1:b=p.Wg:=db;have:=cK.2.2.2 o;rw[hK]at this;have e2:Im p.Wg o=none:=this;rw[<- e1,lw]at e2;cases e2
 ·rw[nu e he];exact hb
 ·rw[nu e he];simp[Tq]
 ·unfold Mode;have e1:sumTo gs.size (λi=>(upd K ic (.close n') i).cnt)=0:=by rw[kZ K (.close n') GS.cnt (by rw[hK];rfl)];exact m4
  have e2:sumTo gs.size (λi=>(upd K ic (.close n') i).late)=0:=by rw[kZ K (.close n') GS.late (by rw[hK];rfl)];exact m3
  simp only[e1,e2,bw];exact .inr (.inr (.inr (.inr (.inr (.inl ⟨m1,trivial,trivial,trivial,.inr rfl⟩)))))
 ·have hr:Rest p.Wg t K ic st:=h.out.2.2.1;rw[hs,m2]at hr;exact hr.got
theorem Inv.age(h:Inv P n0 W0 V gs w t K Im ic (some p) st)(aH:p.recv=true){n:Nat}{gi:SG}(aM:gs[ic]?=some gi)(hK:K ic=.close n)(jv:H2 P p.c (UT t ic) gi):gp P n0 W0 V gs w sl t K Im ic (some p) st ic:=by
 obtain⟨s,hs,fZ,iL,hm⟩:=h.mode aH;obtain⟨⟨nn,m1⟩,m2,m3,m4⟩:=hm.Oy (.inr (by rw[hK];rfl));obtain⟨hd,bI,KY,g',aR,q,l5⟩:=jv;have lC:=aR w nn m1;have fz:∀e∈(#[⟨.obj p.c,false,true⟩,⟨.obj p.c,true,true⟩]:Array Ur),e=⟨.obj p.c,false,true⟩\/e=⟨.obj p.c,true,true⟩:=λe he=>by simpa using he
 have K1:∀j,0<j->j<gs.size->j≠ic->(K j).idx=none:=λj _ hj _=>by
  have hle:(K j).cnt<=sumTo gs.size λi=>(K i).cnt:=Wz (f:=λi=>(K i).cnt) hj;exact GS.aaj (by omega)
 have KE:g'.status=.running\/g'.status=.finished:=ZD l5;have rh:p.c≠p.Wg:=h.phase.2.2.1;have Kh:=h.low.1;have eu:Ta ic gi.frame.fn gi.frame.place #[⟨.obj p.c,false,true⟩,⟨.obj p.c,true,true⟩]=#[{g:=ic,fn:=gi.frame.fn,pos:=gi.frame.place,act:=.ofEvent ⟨.obj p.c,false,true⟩},{g:=ic,fn:=gi.frame.fn,pos:=gi.frame.place,act:=.close p.c}]:=by simp[Ta,Tq]
 have g1:=qX (t:=t) (show (#[({g:=ic,fn:=gi.frame.fn,pos:=gi.frame.place,act:=.ofEvent ⟨.obj p.c,false,true⟩}:V_),{g:=ic,fn:=gi.frame.fn,pos:=gi.frame.place,act:=.close p.c}]:Un)[1]?=some _ from rfl);have nz:∀op∈(#[({g:=ic,fn:=gi.frame.fn,pos:=gi.frame.place,act:=.ofEvent ⟨.obj p.c,false,true⟩}:V_),{g:=ic,fn:=gi.frame.fn,pos:=gi.frame.place,act:=.close p.c}]:Un),still op.act:=by
  intro op az;simp only[TJ,SK,SZ,or_false]at az;rcases az with rfl|rfl<;>exact⟨by simp[Tq],by simp[Tq]⟩
 have Re:∃n,({w with heap:=w.heap.setIfInBounds p.c (.chan 0 #[] true nn nn false)}:To).heap[p.c]?=some (.chan 0 #[] true n n false):=⟨nn,by simp[Kh]⟩;refine h.tF aH (k':=.gone q) (s':=.shut (t.size+1)) fZ aM lC (by rw[hd];exact l5) (by rw[hK];exact GF _) (λ_=>rfl) rfl (λj hj=>by rw[hK]at hj;cases hj) (.inl rfl) (λe he x hx=> .inl ?_) (λe he=> ?_) (λe he a=> ?_) (by simp) (λb hb _=>by simp[Wm,Ne.symm hb]) rfl rfl rfl
  ?_ (.inr ⟨K1,λg hg=>anS fZ hg KY KE Re⟩) ?_ (yk iL (by rw[hK];exact .inl (by simp[GS.cZ])))
 ·rcases fz e he with rfl|rfl
  ·cases hx;exact⟨rfl,rfl⟩
  ·cases hx
 ·rcases fz e he with rfl|rfl
  ·exact Kh
  ·exact Kh
 ·rcases fz e he with rfl|rfl<;>simp[Tq]
 ·unfold Mode;have e1:sumTo gs.size (λi=>(upd K ic (.gone q) i).cnt)=0:=by rw[kZ K (.gone q) GS.cnt (by rw[hK];rfl)];exact m4
  have e2:sumTo gs.size (λi=>(upd K ic (.gone q) i).late)=0:=by rw[kZ K (.gone q) GS.late (by rw[hK];rfl)];exact m3
  simp only[e1,e2,bw];obtain⟨n,hn⟩:=Re;refine .inr (.inr (.inr (.inr (.inr (.inr ⟨⟨t.size+1,n,rfl,?_,?_,hn⟩,trivial,trivial,rfl⟩)))))
  ·rw[eu];exact ae_ g1
  ·rw[eu];exact heard_new (k:=1) rfl rfl (by rw[ua nz (by simp)];exact hd)
 ·have hr:Rest p.Wg t K ic st:=h.out.2.2.1;rw[hs,m2]at hr;rw[eu];refine hr.app (λidx a ha hx=> .inr (.inr (Knows.hb_new hx (by omega) g1 rfl))) (λidx a hi ⟨op,az,cX,_⟩ _=> .inr (.inr ?_));have hlt:idx<t.size+2:=by have:=TG cX;simpa using this
  have o5:op.g=ic:=by
   simp only[TJ,SK,SZ,or_false]at az;rcases az with rfl|rfl<;>rfl
  exact OW (g:=ic) (by simp[Wx,cX,o5]) (by simp[Wx,g1]) (by omega)
structure Ei (P:SI)(n0:Nat)(W0:To)(V:View)(gs:Array SG)(w:To)(sl:Option (Nat×Nat))(t:Un)(Im:cm)(ic:Nat)(p:Phase)(st:Option ec)(g:SG)(i:Nat):Prop where
 intro::
 met:∃gs' w' ops K' j sp S v kD Ow,runT P (crowd gs w sl) i=(.next (crowd gs' w' sl),ops)/\gs'.size=gs.size/\j9 gs' (T7 g (.tuple #[v,.bool true]))/\p.Ss[j]?=some (sp::S)/\sp v kD Ow/\(∀b,V.own b≠none->Ow b=none)/\(∀b o,V.own b≠none->kD b o≠none->V.ah b o≠none)/\
  (∃w,Sat V w/\(∀b o x,kD b o=some x->w.cell? ⟨b,o,none⟩=some x)/\∀b x,Ow b=some x->w.heap[b]?=some x)/\
  Inv P n0 W0 (nE V kD Ow (.recv p.c p.Wg (p.Ss.set j S))) gs' w' (t++ops) K' Im ic (some {p with Ss:=p.Ss.set j S}) st
theorem Inv.ap2(h:Inv P n0 W0 V gs w t K Im ic (some p) st)(aH:p.recv=true)(gA:V.deaf=0){g:SG}(hm:nP gs g p.c){i j:Nat}{gi:SG}{hh h':Ht}{Vi V₁:View}{c Wg:Nat}{sp:Spec}{S:List Spec}{v z:SO}{B:Nat->Bool}(hi:0<i)(aM:gs[i]?=some gi)
  (hK:K i=.work j hh Vi) (hg:dR Vi V₁) (hr:V₁.role=.work c Wg (sp::S)) (hd:V₁.deaf=0) (aR:stepG P false gi w=.comm gi #[scase c v z] true .send w #[])
  (xX:sp v V₁.ah (lL B V₁)) (hk:lg P h' (lI B V₁ (.work c Wg S)) (T7 gi undef)):Ei P n0 W0 V gs w sl t Im ic p st g i:=by
 have hlt:i<gs.size:=(SR.1 aM).1;have dg:=h.is i gi hi aM;simp only[hK,GS.is]at dg;obtain⟨bx,_,S',hS,i_⟩:=dg;rw[hg.role,i_]at hr;cases hr;have gL:(K i).cnt=1:=by rw[hK];rfl
 obtain⟨⟨n,gD⟩,kS⟩:=h.counted hi hlt gL;have eJ:(i==0)=false:=by simp;omega
 obtain⟨g0,z0,h0,kM,iJ,mB⟩:=hm;have hp:partners (gs.setIfInBounds i ph) p.c false=[(0,0)]:=by
  have Fa:(gs.setIfInBounds i ph)[0]?=some (parked g0 #[rcase p.c z0] (.recv true)):=by rw[SU (by omega)];exact h0
  rw[partners_one Fa (λm x hm hx=> ?_),offersAt_parked_recv]
  ·simp
  ·rcases X_ gs i m x hx with⟨_,rfl⟩|⟨_,jw⟩
   ·exact Zl _ _
   ·exact abo (h.is m x (by omega) jw) _
 have bI:=crowd_send_meets (P:=P) (sl:=sl) (i:=i) aM (by rw[eJ];exact aR) gD (by omega) h0 hp;rw[Yx,ad']at bI;have l7:(K i).view Im=Vi:=by rw[hK];rfl
 have aW:((gs.setIfInBounds 0 (T7 g0 (recvd true v true))).setIfInBounds i (T7 gi undef)).size=gs.size:=by simp
 have a_:UT t i=0:=by rw[bx,<- hg.deaf,hd]
 have CL:Sat V₁ w:=by
  have:=h.core.sat i hlt;rw[show bE V Im K i=(K i).view Im by simp[bE];omega,l7]at this;exact hg.sat w this
 have Ll:Sat V w:=by have:=h.core.sat 0 h.pos;rwa [show bE V Im K 0=V by simp[bE]]at this
 have uy:=h.met (gs':=(gs.setIfInBounds 0 (T7 g0 (recvd true v true))).setIfInBounds i (T7 gi undef)) (w':=w.setChan p.c 0 #[] false (n+1) (n+1) false) (gi:=gi) (h':=h') (V₁:=V₁) (S:=S) (sp:=sp) (B:=B) aH gA hi hlt (by rw[hK];rfl) (by rw[l7];exact hg) (by rw[hg.role,i_]) hd a_ hS hk aW
  (by rw[S_ (by simpa using hlt)]) (λm hm iM=>by rw[SU (Ne.symm hm),SU (by omega)])
  (u:=Ta i gi.frame.fn gi.frame.place #[]++#[{g:=i,fn:=gi.frame.fn,pos:=gi.frame.place,act:=.send p.c n},{g:=0,fn:=g0.frame.fn,pos:=g0.frame.place,act:=.recv p.c n 0},
    {g:=i,fn:=gi.frame.fn,pos:=gi.frame.place,act:=.sendDone p.c n},{g:=0,fn:=g0.frame.fn,pos:=g0.frame.place,act:=.recvDone p.c n}]) (s:=n) (by simp only[Ta,YZ,if_true,Xq];rfl) ⟨rfl,rfl⟩ ⟨rfl,rfl⟩ ⟨rfl,rfl⟩ ⟨rfl,rfl⟩
  (by simp[Wb]) (λb hb=>by simp[Wb,Wm,Ne.symm hb]) ⟨n+1,by simp[Wb,h.low.1]⟩ rfl rfl rfl
 refine⟨_,_,_,_,j,sp,S,v,V₁.ah,lL B V₁,bI,aW,⟨T7 g0 (recvd true v true),?_,rfl,?_,iJ,mB⟩,hS,xX,uy.1,uy.2.1,⟨w,Ll,CL.ah,λb x e=> ?_⟩,uy.2.2⟩
 ·rw[SU (by omega),S_ h.pos]
 ·simp only[T7,kM];rfl
 ·unfold lL at e;split at e
  ·exact CL.own b x e
  ·cases e
theorem Inv.ao7(h:Inv P n0 W0 V gs w t K Im ic (some p) st)(aH:p.recv=true)(gA:V.deaf=0){g:SG}{z:SO}(hm:j9 gs g)(aR:stepG P true g w=.comm g #[rcase p.c z] true (.recv true) w #[])
  (hw:∃i j h' V₁ V₂ g1 v z1,0<i/\i<gs.size/\K i=.nJ j h' V₁ V₂ g1 v z1):Ei P n0 W0 V gs w sl t Im ic p st g 0:=by
 obtain⟨g0,h0,hf0,kM,iJ,mB⟩:=hm;have kS:stepG P (0==0) g0 w=.comm g #[rcase p.c z] true (.recv true) w #[]:=by rw[<- aR];exact Xb kM iJ mB w
 obtain⟨i0,j0,a0,a1,a2,a3,a4,a5,b0,b1,b2⟩:=hw;have ajL:(K i0).cnt=1:=by rw[b2];rfl
 obtain⟨⟨n,gD⟩,F9⟩:=h.counted b0 b1 ajL;have te:gs[i0]?=some gs[i0]:=SJ b1;have fx:∀j k,(j,k)∈partners (gs.setIfInBounds 0 ph) p.c true->k=0/\j≠0/\∃gj vj zj Nq,gs[j]?=some (parked gj #[scase p.c vj zj] Nq):=by
  intro j k hjk;obtain⟨x,hx,hk⟩:=mem_partners.1 hjk;rcases X_ gs 0 j x hx with⟨_,rfl⟩|⟨uu,jw⟩
  ·rw[Zl]at hk;cases hk
  ·rcases GS.runs (h.is j x (by omega) jw)with hr|⟨hf,_⟩|⟨q,h',V1,V2,g1,v,z1,e⟩|⟨_,hb,ho⟩
   ·rw[UV (by rw[hr];simp)]at hk;cases hk
   ·rw[UV (by rw[hf];simp)]at hk;cases hk
   ·have:=h.is j x (by omega) jw;simp only[e,GS.is]at this;obtain⟨_,_,rfl,_⟩:=this;rw[ZC]at hk;simp at hk;exact⟨hk,uu,g1,v,z1,.send,jw⟩
   ·have:offersAt x p.c true=[]:=(by unfold offersAt;simp[hb,ho]);rw[this]at hk;cases hk
 have aI:partners (gs.setIfInBounds 0 ph) p.c true≠[]:=by
  intro e;have fz:(i0,0)∈partners (gs.setIfInBounds 0 ph) p.c true:=by
   have:=h.is i0 _ b0 te;simp only[b2,GS.is]at this;obtain⟨_,_,gN,_⟩:=this;refine mem_partners.2 ⟨gs[i0],by rw[SU (by omega)];exact te,?_⟩;rw[gN,ZC];simp
  rw[e]at fz;cases fz
 obtain⟨i,gj,vj,zj,Nq,d,eJ,aM,bI⟩:=crowd_recv_meets_some (P:=P) (sl:=sl) h0 kS gD aI fx;have hi:0<i:=by omega
 have hlt:i<gs.size:=(SR.1 aM).1;obtain⟨j,h',V₁,V₂,g1,v,z1,hK⟩:∃j h' V₁ V₂ g1 v z1,K i=.nJ j h' V₁ V₂ g1 v z1:=by
  rcases GS.runs (h.is i _ hi aM)with hr|⟨hf,_⟩|x|⟨_,_,ho⟩
  ·cases hr
  ·cases hf
  ·exact x
  ·cases ho
 have dg:=h.is i _ hi aM;simp only[hK,GS.is]at dg;obtain⟨bx,hd,gN,hk,sp,S,B,hS,i_,xX,zC⟩:=dg;have efr:gj.frame=g1.frame/\gj.callers=g1.callers/\gj.dying=g1.dying/\vj=v/\zj=z1/\Nq=.send:=by
  simp only[parked,ad_,Tj,U2]at gN;obtain⟨e1,e2,_,e3,e4,e5⟩:=gN;simp[scase]at e4;exact⟨e1,e2,e3,e4.1,e4.2,e5⟩
 obtain⟨e1,e2,e3,rfl,rfl,rfl⟩:=efr;have esv:T7 gj undef=T7 g1 undef:=by simp[T7,e1,e2,e3]
 rw[ad',Yx,esv]at bI;subst zC;have l7:(K i).view Im=V₁:=by rw[hK];rfl
 have aW:((gs.setIfInBounds i (T7 g1 undef)).setIfInBounds 0 (T7 g (recvd true vj true))).size=gs.size:=by simp
 have CL:Sat V₁ w:=by
  have:=h.core.sat i hlt;rwa [show bE V Im K i=(K i).view Im by simp[bE];omega,l7]at this
 have Ll:Sat V w:=by have:=h.core.sat 0 h.pos;rwa [show bE V Im K 0=V by simp[bE]]at this
 have uy:=h.met (gs':=(gs.setIfInBounds i (T7 g1 undef)).setIfInBounds 0 (T7 g (recvd true vj true))) (w':=(w.at d).setChan p.c 0 #[] false (n+1) (n+1) false) (gi:=g1) (h':=h') (V₁:=V₁) (S:=S) (sp:=sp) (B:=B) aH gA hi hlt (by rw[hK];rfl) (by rw[l7];exact dR.refl _) i_ hd bx hS hk aW
  (by rw[SU (by omega),S_ hlt]) (λm hm iM=>by rw[SU (by omega),SU (Ne.symm hm)])
  (u:=Ta 0 g0.frame.fn g0.frame.place #[]++#[{g:=i,fn:=gj.frame.fn,pos:=gj.frame.place,act:=.send p.c n},{g:=0,fn:=g.frame.fn,pos:=g.frame.place,act:=.recv p.c n 0},
    {g:=i,fn:=gj.frame.fn,pos:=gj.frame.place,act:=.sendDone p.c n},{g:=0,fn:=g.frame.fn,pos:=g.frame.place,act:=.recvDone p.c n}]) (s:=n) (by simp only[Ta,YZ,if_true,Xq];rfl) ⟨rfl,rfl⟩ ⟨rfl,rfl⟩ ⟨rfl,rfl⟩ ⟨rfl,rfl⟩
  (by simp[Wb,World.at]) (λb hb=>by simp[Wb,World.at,Wm,Ne.symm hb]) ⟨n+1,by simp[Wb,World.at,h.low.1]⟩ rfl rfl rfl
 refine⟨_,_,_,_,j,sp,S,vj,V₁.ah,lL B V₁,bI,aW,⟨T7 g (recvd true vj true),?_,rfl,rfl,rfl,rfl⟩,hS,xX,uy.1,uy.2.1,⟨w,Ll,CL.ah,λb x e=> ?_⟩,uy.2.2⟩
 ·rw[S_ (by simpa using h.pos)]
 ·unfold lL at e;split at e
  ·exact CL.own b x e
  ·cases e
end
section
variable {P:SI}{n0:Nat}{W0:To}{V:View}{gs gs':Array SG}{w w':To}{sl:Option (Nat×Nat)}{t:Un}{K:Nat->GS}{Im:cm}{ic:Nat}{ph:Option Phase}{p:Phase}{st st':Option ec}
theorem Inv.tG(h:Inv P n0 W0 V gs w t K Im ic (some p) st){i n:Nat}{gi:SG}{Stop:Nat->SG->Prop}{mk:Nat->GS}(hi:0<i)(aM:gs[i]?=some gi)(hK:K i=mk n)(cG:cO P Stop n (UT t i) gi)
  (rq:∀n d g,cO P Stop n d g->(mk n).is P p.c p.Wg Im p.Ss d g) (db:∀n m,(mk n).shape=(mk m).shape) (LA:∀n m,(mk n).view Im=(mk m).view Im) (Li:∀n,qL (mk n).cZ (mk (n+1)).cZ) (Ac:∀d g,Stop d g->g.status=.running)
  (hgo:Stop (UT t i) gi->gp P n0 W0 V gs w sl t K Im ic (some p) st i):gp P n0 W0 V gs w sl t K Im ic (some p) st i:=by
 cases n with
 |zero=>exact hgo cG
 |succ n=>
  rcases cG with hs|⟨hr,g',es,hm,aR,hs⟩
  ·exact hgo hs
  ·exact h.slip (k':=mk n) hi aM (aR w) hm (rq _ _ _ hs) (λx=>by rw[cO.running Ac hs]at x;cases x) (by rw[hK];exact db _ _) (by rw[hK];exact LA _ _) (λ_=>cO.running Ac hs) (by rw[hK];exact Li n)
theorem Inv.acz(h:Inv P n0 W0 V gs w t K Im ic (some p) st){i n:Nat}{gi:SG}{Stop:Nat->SG->Prop}{mk:Nat->GS}(hi:0<i)(aM:gs[i]?=some gi)(hK:K i=mk n)(hW:∃x y,WgAt P p.Wg w x y)(cG:gX P p.Wg Stop n (UT t i) gi)
  (rq:∀n d g,gX P p.Wg Stop n d g->(mk n).is P p.c p.Wg Im p.Ss d g) (db:∀n m,(mk n).shape=(mk m).shape) (LA:∀n m,(mk n).view Im=(mk m).view Im) (Li:∀n,qL (mk n).cZ (mk (n+1)).cZ) (Ac:∀d g,Stop d g->g.status=.running)
  (hgo:Stop (UT t i) gi->gp P n0 W0 V gs w sl t K Im ic (some p) st i):gp P n0 W0 V gs w sl t K Im ic (some p) st i:=by
 cases n with
 |zero=>exact hgo cG
 |succ n=>
  rcases cG with hs|⟨hr,g',es,hm,aR,hs⟩
  ·exact hgo hs
  ·exact h.slip (k':=mk n) hi aM (aR w _ _ hW.choose_spec.choose_spec) hm (rq _ _ _ hs) (λx=>by rw[gX.running Ac hs]at x;cases x) (by rw[hK];exact db _ _) (by rw[hK];exact LA _ _) (λ_=>gX.running Ac hs) (by rw[hK];exact Li n)
theorem Inv.other(h:Inv P n0 W0 V gs w t K Im ic ph st){g:SG}(o1:j9 gs g\/∃p,ph=some p/\p.recv=true/\V.deaf=0/\nP gs g p.c){i:Nat}{gi:SG}(hi:0<i)(aM:gs[i]?=some gi)(bI:gi.status=.running):
  gp P n0 W0 V gs w sl t K Im ic ph st i\/∃p,ph=some p/\Ei P n0 W0 V gs w sl t Im ic p st g i/\nP gs g p.c:=by
 have hlt:i<gs.size:=(SR.1 aM).1;have dg:=h.out.1 i gi hi aM;have gone:∀q,K i=.gone q->Y5 P q (UT t i) gi->gp P n0 W0 V gs w sl t K Im ic ph st i:=by
  intro q hK hq;cases q with
  |zero=>rw[hq.1]at bI;cases bI
  |succ q=>
   rcases hq with⟨hf,_⟩|⟨_,g',es,hm,aR,s7⟩
   ·rw[hf]at bI;cases bI
   ·refine h.slip (k':=.gone q) hi aM (aR w) hm ?_ (λx=>by rcases s7.status with e|e<;>rw[e]at x<;>cases x) (by rw[hK];rfl) (by rw[hK];rfl) (λx=>by rw[hK]at x;rcases x with x|x<;>cases x) (by rw[hK];exact .inr ⟨rfl,.inr ⟨rfl,Ux _⟩⟩);cases ph with
    |none=>exact⟨q,rfl,s7⟩
    |some p=>exact s7
 cases ph with
 |none=>
  obtain⟨q,hK,hq⟩:=dg;exact .inl (gone q hK hq)
 |some p=>
  have eS:(K i).is P p.c p.Wg Im p.Ss (UT t i) gi:=dg;have qg:(K i).idx=none->(∀q,K i≠ .gone q)->p.recv=true:=λh1 h2=>by
   cases aH:p.recv with
   |true=>rfl
   |false=>
    have hx:=h.phase.2.2.2.2.2.2.2.2.2;rw[if_neg (by rw[aH];simp)]at hx;rcases hx.2.2.2.1 i hi hlt with x|⟨q,x⟩
    ·rw[h1]at x;cases x
    ·exact absurd x (h2 q)
  cases hK:K i with
  |gone q=>rw[hK]at eS;exact .inl (gone q hK eS)
  |nJ j h' V1 V2 g0 v z=>
   rw[hK]at eS;obtain⟨_,_,rfl,_⟩:=eS;cases bI
  |work j hh Vi=>
   rw[hK]at eS;obtain⟨hd,LC,S,hS,i_⟩:=eS;have l7:bE V Im K i=Vi:=(by simp[bE,hK,GS.view];omega);have fj:Sat Vi w:=(by have:=h.core.sat i hlt;rwa [l7]at this);cases LC with
   |step G' W' E' V' hs hg h1 h2 h3=>
    exact .inl (h.adv hi aM hK (h1 w (hg.sat w fj)) (dc.rO hg (h2 w (hg.sat w fj))) (h3 w (hg.sat w fj)) (.mk _ w))
   |send c Wg sp S1 v z B hs hg hr bY ho h1 h2 h3=>
    have er:mN.work p.c p.Wg S=.work c Wg (sp::S1):=(by rw[<- i_,<- hg.role,hr]);cases er;rcases o1 with hm|⟨p',zZ,aH,gA,hm⟩
    ·exact .inl (h.ar2 hm hi aM hK hg hr bY (h1 w (hg.sat w fj)) h2 h3)
    ·cases zZ;exact .inr ⟨p,rfl,h.ap2 aH gA hm hi aM hK hg hr bY (h1 w (hg.sat w fj)) h2 h3,hm⟩
   |done c Wg hg hr bY h1=>
    have er:mN.work p.c p.Wg S=.work c Wg []:=(by rw[<- i_,<- hg.role,hr]);cases er;refine .inl (h.release ?_ hi aM hK hg hr bY h1);cases aH:p.recv with
    |true=>rfl
    |false=>
     have hx:=h.phase.2.2.2.2.2.2.2.2.2;rw[if_neg (by rw[aH];simp)]at hx;exact absurd rfl (hx.2.2.2.2.1 [] (Tc hS))
   |slip c Wg hs hg hr h1 h3=>
    have er:mN.work p.c p.Wg S=.work c Wg []:=(by rw[<- i_,<- hg.role,hr]);cases er;have aH:p.recv=true:=by
     cases aH:p.recv with
     |true=>rfl
     |false=>
      have hx:=h.phase.2.2.2.2.2.2.2.2.2;rw[if_neg (by rw[aH];simp)]at hx;exact absurd rfl (hx.2.2.2.2.1 [] (Tc hS))
    obtain⟨s,hW⟩:=h.agl aH hlt (by rw[hK];rfl);exact .inl (h.adv hi aM hK (h1 w s (hg.sat w fj) hW) (dc.rO hg (dc.idle (hg.sat w fj))) h3 (A9.mk (λ_=>_) w))
  |add n=>
   rw[hK]at eS;have aH:=qg (by rw[hK];rfl) (λq=>by rw[hK];simp);exact .inl (h.tG (mk:=.add) hi aM hK eS (λ_ _ _ x=>x) (λ_ _=>rfl) (λ_ _=>rfl) (λn=> .inr ⟨rfl,.inr ⟨rfl,Ux _⟩⟩) (λ_ _ x=>x.2.1) (λhs=>h.aeD aH hi aM hK hs))
  |load n=>
   rw[hK]at eS;have aH:=qg (by rw[hK];rfl) (λq=>by rw[hK];simp);exact .inl (h.tG (mk:=.load) hi aM hK eS (λ_ _ _ x=>x) (λ_ _=>rfl) (λ_ _=>rfl) (λn=> .inr ⟨rfl,.inr ⟨rfl,Ux _⟩⟩) (λ_ _ x=>x.2.1) (λhs=>h.amE aH hi aM hK hs))
  |store n=>
   rw[hK]at eS;have aH:=qg (by rw[hK];rfl) (λq=>by rw[hK];simp);exact .inl (h.tG (mk:=.store) hi aM hK eS (λ_ _ _ x=>x) (λ_ _=>rfl) (λ_ _=>rfl) (λn=> .inr ⟨rfl,.inr ⟨rfl,Ux _⟩⟩) (λ_ _ x=>x.2.1) (λhs=>h.aqO aH hi aM hK hs))
  |mf n=>
   rw[hK]at eS;have aH:=qg (by rw[hK];rfl) (λq=>by rw[hK];simp);exact .inl (h.tG (mk:=.mf) hi aM hK eS (λ_ _ _ x=>x) (λ_ _=>rfl) (λ_ _=>rfl) (λn=> .inr ⟨rfl,.inr ⟨rfl,Ux _⟩⟩) (λ_ _ x=>x.2.1) (λhs=>h.ap1 aH hi aM hK hs))
  |head k n=>
   rw[hK]at eS;have aH:=qg (by rw[hK];rfl) (λq=>by rw[hK];simp);have fK:i=ic:=h.rV hi (by rw[hK];rfl);exact .inl (h.tG (mk:=.head k) hi aM hK eS (λ_ _ _ x=>x) (λ_ _=>rfl) (λ_ _=>rfl) (λn=> .inr ⟨rfl,.inr ⟨rfl,Ux _⟩⟩) (λ_ _ x=>Rn x) (λhs=>by subst fK;exact h.aj7 aH aM hK hs))
  |lU v n=>
   rw[hK]at eS;have aH:=qg (by rw[hK];rfl) (λq=>by rw[hK];simp);have fK:i=ic:=h.rV hi (by rw[hK];rfl);exact .inl (h.tG (mk:=.lU v) hi aM hK eS (λ_ _ _ x=>x) (λ_ _=>rfl) (λ_ _=>rfl) (λn=> .inr ⟨rfl,.inr ⟨rfl,Ux _⟩⟩) (λ_ _ x=>x.2.1) (λhs=>by subst fK;exact h.af9 aH aM hK hs))
  |said n=>
   rw[hK]at eS;have aH:=qg (by rw[hK];rfl) (λq=>by rw[hK];simp);have fK:i=ic:=h.rV hi (by rw[hK];rfl);exact .inl (h.acz (mk:=.said) hi aM hK (h.Ol aH (n:=n) (.inr (by rw[<- fK];exact hK))) eS (λ_ _ _ x=>x) (λ_ _=>rfl) (λ_ _=>rfl) (λn=> .inr ⟨rfl,.inr ⟨rfl,Ux _⟩⟩) (λ_ _ x=>x.2.1) (λhs=>by subst fK;exact h.apG aH aM hK hs))
  |gZ n=>
   rw[hK]at eS;have aH:=qg (by rw[hK];rfl) (λq=>by rw[hK];simp);have fK:i=ic:=h.rV hi (by rw[hK];rfl);rcases eS with eS|⟨_,g1,rfl,_⟩
   ·exact .inl (h.tG (mk:=.gZ) hi aM hK eS (λ_ _ _ x=> .inl x) (λ_ _=>rfl) (λ_ _=>rfl) (λn=> .inr ⟨rfl,.inr ⟨rfl,Ux _⟩⟩) (λ_ _ x=>x.2.1) (λhs=>by subst fK;exact h.agm aH aM hK hs))
   ·cases bI
  |last n=>
   rw[hK]at eS;have aH:=qg (by rw[hK];rfl) (λq=>by rw[hK];simp);have fK:i=ic:=h.rV hi (by rw[hK];rfl);exact .inl (h.tG (mk:=.last) hi aM hK eS (λ_ _ _ x=>x) (λ_ _=>rfl) (λ_ _=>rfl) (λn=> .inr ⟨rfl,.inr ⟨rfl,Ux _⟩⟩) (λ_ _ x=>x.2.1) (λhs=>by subst fK;exact h.alY aH aM hK hs))
  |acq n=>
   rw[hK]at eS;have aH:=qg (by rw[hK];rfl) (λq=>by rw[hK];simp);have fK:i=ic:=h.rV hi (by rw[hK];rfl);exact .inl (h.acz (mk:=.acq) hi aM hK (h.Ol aH (n:=n) (.inl (by rw[<- fK];exact hK))) eS (λ_ _ _ x=>x) (λ_ _=>rfl) (λ_ _=>rfl) (λn=> .inr ⟨rfl,.inr ⟨rfl,Ux _⟩⟩) (λ_ _ x=>x.2.1) (λhs=>by subst fK;exact h.aey aH aM hK hs))
  |look n=>
   rw[hK]at eS;have aH:=qg (by rw[hK];rfl) (λq=>by rw[hK];simp);have fK:i=ic:=h.rV hi (by rw[hK];rfl);exact .inl (h.tG (mk:=.look) hi aM hK eS (λ_ _ _ x=>x) (λ_ _=>rfl) (λ_ _=>rfl) (λn=> .inr ⟨rfl,.inr ⟨rfl,Ux _⟩⟩) (λ_ _ x=>x.2.1) (λhs=>by subst fK;exact h.amF aH aM hK hs))
  |close n=>
   rw[hK]at eS;have aH:=qg (by rw[hK];rfl) (λq=>by rw[hK];simp);have fK:i=ic:=h.rV hi (by rw[hK];rfl);exact .inl (h.tG (mk:=.close) hi aM hK eS (λ_ _ _ x=>x) (λ_ _=>rfl) (λ_ _=>rfl) (λn=> .inr ⟨rfl,.inr ⟨rfl,Ux _⟩⟩) (λ_ _ x=>x.2.1) (λhs=>by subst fK;exact h.age aH aM hK hs))
theorem Inv.awake(h:Inv P n0 W0 V gs w t K Im ic ph st){g:SG}(o1:j9 gs g\/∃p,ph=some p/\p.recv=true/\V.deaf=0/\nP gs g p.c):∀x∈gs,awake x:=by
 intro x hx;obtain⟨i,hi⟩:=YE.1 hx;rcases UF i with rfl|eJ
 ·rcases o1 with⟨g0,h0,h1,_⟩|⟨p,_,_,_,g0,z,h0,_⟩
  ·rw[hi]at h0;cases h0;intro s;rw[h1];simp
  ·rw[hi]at h0;cases h0;intro s;simp[parked]
 ·have dg:=h.out.1 i x eJ hi;intro s;cases ph with
  |none=>
   obtain⟨q,_,hq⟩:=dg;rcases hq.status with e|e<;>rw[e]<;>simp
  |some p=>
   rcases GS.runs (show (K i).is P p.c p.Wg Im p.Ss (UT t i) x from dg)with e|⟨e,_⟩|⟨j,h',V1,V2,g1,v,z,e⟩|⟨_,e,_⟩
   ·rw[e];simp
   ·rw[e];simp
   ·have eS:(K i).is P p.c p.Wg Im p.Ss (UT t i) x:=dg;rw[e]at eS;obtain⟨_,_,rfl,_⟩:=eS;simp[parked]
   ·rw[e];simp
end
def Ok (P:SI)(Post:SO->To->Prop)(m:ap_)(t:Un):Prop:=
 ∃M last o w' t',runNT P (M+1) m t=(.ended o w',t')/\runN P M m=.next last/\step P last=.ended o w'/\WW P Post last o w' t'
section
variable {P:SI}{Post:SO->To->Prop}
theorem Ok.step{m m':ap_}{t:Un}{ops:Array V_}(hs:stepT P m=(.next m',ops))(h:Ok P Post m' (t++ops)):Ok P Post m t:=by
 obtain⟨M,last,o,w',t',h1,h2,h3,h4⟩:=h;refine⟨M+1,last,o,w',t',?_,?_,h3,h4⟩
 ·rw[runNT,hs];exact h1
 ·have:ab' P m=.next m':=by unfold ab';rw[hs]
  rw[runN,this];exact h2
theorem Ok.end{m:ap_}{t:Un}{o:Outcome}{w':To}{ops:Array V_}(hs:stepT P m=(.ended o w',ops))(h:WW P Post m o w' (t++ops)):Ok P Post m t:=by
 refine⟨0,m,o,w',t++ops,?_,rfl,?_,h⟩
 ·simp[runNT,hs]
 ·unfold ab';rw[hs]
end
section
variable {P:SI}{n0:Nat}{W0:To}{V:View}{gs gs':Array SG}{w w':To}{sl:Option (Nat×Nat)}{t:Un}{K:Nat->GS}{Im:cm}{ic:Nat}{ph:Option Phase}{p:Phase}{st st':Option ec}
theorem Inv.draw(h:Inv P n0 W0 V gs w t K Im ic ph st)(d:Nat):Inv P n0 W0 V gs (w.at d) t K Im ic ph st:=
 let⟨a,b,c,e⟩:=h.out
 Inv.mk' h.pos h.k0 h.d0 a (b.draw d) c (by cases ph<;>exact e)
theorem Ny{f:Nat->Nat}:∀{N:Nat},0<sumTo N f->∃i,i<N/\0<f i
 |0,h=>by simp[sumTo]at h
 |N+1,h=>by
  by_cases hN:0<f N
  ·exact⟨N,by omega,hN⟩
  ·obtain⟨i,hi,hf⟩:=Ny (N:=N) (f:=f) (by rw[sumTo]at h;omega);exact⟨i,by omega,hf⟩
theorem Inv.aqf(h:Inv P n0 W0 V gs w t K Im ic (some p) st)(aH:p.recv=true)(ho:yT w p.c)(sN:Calm gs):∃i gi,0<i/\gs[i]?=some gi/\gi.status=.running:=by
 obtain⟨s,hs,fZ,iL,hm⟩:=h.mode aH;have h0:=h.k0;have B3:gs[ic]?=some gs[ic]:=SJ iL;have ath:(K ic).is P p.c p.Wg Im p.Ss (UT t ic) gs[ic]:=h.is ic _ fZ B3;have run:∀i x,0<i->gs[i]?=some x->(∀q,K i≠ .gone q)->(∀n,K i≠ .gZ n)->x.status=.running:=by
  intro i x hi hx h1 h2;rcases GS.runs (show (K i).is P p.c p.Wg Im p.Ss (UT t i) x from h.is i x hi hx)with e|⟨_,q,e⟩|⟨j,h',V1,V2,g1,v,z,e⟩|⟨⟨n,e⟩,_⟩
  ·exact e
  ·exact absurd e (h1 q)
  ·have cw:=h.is i x hi hx;simp only[e,GS.is]at cw;obtain⟨_,_,gN,_⟩:=cw;have:=sN i x hi hx (by rw[gN];rfl);rw[gN]at this;cases this
  ·exact absurd e (h2 n)
 have LQ:(∀q,K ic≠ .gone q)->(∀n,K ic≠ .gZ n)->∃i gi,0<i/\gs[i]?=some gi/\gi.status=.running:=λa b=>⟨ic,_,fZ,B3,run ic _ fZ B3 a b⟩;have other:∀i,i<gs.size->(K i).cnt=1\/(K i).late=1->∃i gi,0<i/\gs[i]?=some gi/\gi.status=.running:=by
  intro i hi hc;have eJ:0<i:=by
   rcases UF i with rfl|x
   ·rw[h0]at hc;rcases hc with c|c<;>cases c
   ·exact x
  exact⟨i,_,eJ,SJ hi,run i _ eJ (SJ hi) (λq e=>by rw[e]at hc;rcases hc with c|c<;>cases c) (λq e=>by rw[e]at hc;rcases hc with c|c<;>cases c)⟩
 have one:∀i,0<(K i).cnt->(K i).cnt=1:=λi hi=>by cases e:K i<;>rw[e]at hi<;>first|rfl|exact absurd hi (by simp[GS.cnt])
 have anC:∀i,0<(K i).late->(K i).late=1:=λi hi=>by cases e:K i<;>rw[e]at hi<;>first|rfl|exact absurd hi (by simp[GS.late])
 unfold Mode at hm;rcases hm with m|m|m|m|m|m|m
 ·rcases m.2.2.2.2.2 with⟨k,e,_⟩|⟨v,e,_⟩<;>exact LQ (λq x=>by rw[x]at e;cases e) (λq x=>by rw[x]at e;cases e)
 ·obtain⟨i,hi,hc⟩:=Ny (N:=gs.size) (f:=λi=>(K i).cnt) (by have:=m.2.2.2.1;omega);exact other i hi (.inl (one i hc))
 ·obtain⟨i,hi,hc⟩:=Ny (N:=gs.size) (f:=λi=>(K i).late) (by have:=m.2.2.1;omega);exact other i hi (.inr (anC i hc))
 ·exact⟨ic,_,fZ,B3,m.2.2.2.2.2.1 _ B3⟩
 ·rcases m.2.2.2.2.2 with e|e<;>exact LQ (λq x=>by rw[x]at e;cases e) (λq x=>by rw[x]at e;cases e)
 ·rcases m.2.2.2.2 with e|e<;>exact LQ (λq x=>by rw[x]at e;cases e) (λq x=>by rw[x]at e;cases e)
 ·obtain⟨⟨_,n,_,_,_,aX⟩,_⟩:=m;obtain⟨n',ho⟩:=ho;rw[aX]at ho;simp at ho
theorem rZ(V':View)(Im:cm)(K:Nat->GS):bE V' Im K=upd (bE V Im K) 0 V':=by
 funext j;by_cases hj:j=0
 ·subst hj;rw[bw];simp[bE]
 ·rw[bc _ _ hj];simp[bE,hj]
theorem kB:bE V Im K 0=V:=by simp[bE]
def vg (r:mN)(ph:Option Phase):Prop:=match r with
 |.plain=>ph=none
 |.fork c Wg Ss=>ph=some ⟨c,Wg,Ss,false⟩
 |.recv c Wg Ss=>ph=some ⟨c,Wg,Ss,true⟩
 |.work .. =>False
theorem Inv.amO(h:Inv P n0 W0 V gs w t K Im ic ph st){V':View}(g:dR V V')(hr:vg V.role ph):Inv P n0 W0 V' gs w t K Im ic ph st:=by
 obtain⟨dg,hc,mD,gE⟩:=h.out;refine Inv.mk' h.pos h.k0 (by rw[g.deaf];exact h.d0) dg ?_ mD ?_
 ·rw[rZ (V:=V)];exact hc.ghost h.pos (by rw[kB];exact g)
 ·cases ph with
  |none=>exact gE
  |some p=>
   obtain⟨a1,a2,a3,a4,a5,a6,a7,a8,a9,bQ⟩:=gE;refine⟨a1,a2,a3,a4,a5,a6,a7,a8,a9,?_⟩;split
   ·rename_i aH;rw[if_pos aH]at bQ;have b:jh p V:=⟨bQ.1.1,bQ.1.2.1,bQ.1.2.2.1,bQ.1.2.2.2⟩;have b':=b.ghost g;exact⟨⟨b'.1,b'.2.1,b'.2.2.1,b'.2.2.2⟩,bQ.2⟩
   ·rename_i aH;rw[if_neg aH]at bQ;refine⟨g.chan _ _ ?_ bQ.1,bQ.2⟩;unfold vg at hr;split at hr
    ·cases hr
    ·cases hr;rename_i e;rw[e];rfl
    ·cases hr;exact absurd rfl aH
    ·exact hr.elim
theorem Inv.aaT(h:Inv P n0 W0 V gs w t K Im ic ph st){g0 g':SG}{es:Array Ur}{V':View}(h0:gs[0]?=some g0)(s:dc V w V' w' es)(hr:vg V.role ph):
  Inv P n0 W0 V' ((gs.map (woken P g0 g' w')).setIfInBounds 0 g') w' (t++Ta 0 g0.frame.fn g0.frame.place es) K Im ic ph st:=by
 obtain⟨dg,hc,mD,gE⟩:=h.out;have aW:((gs.map (woken P g0 g' w')).setIfInBounds 0 g').size=gs.size:=by simp
 have CM:∀op∈Ta 0 g0.frame.fn g0.frame.place es,op.g=0:=λop az=>by obtain⟨e,_,rfl⟩:=TL az;rfl
 have ej:∀{u:Un}{idx:Nat}{op:V_},(t++u)[idx]?=some op->op.g=0->Wi (t++u) 0 idx:=λ{u idx op} a b=>by have:=Zc a;rwa [b]at this
 have Rd:∀p,ph=some p->w'.heap[p.c]?=w.heap[p.c]?:=by
  rintro p rfl
  obtain⟨a1,a2,a3,a4,a5,a6,a7,a8,a9,bQ⟩:=gE;by_cases aH:p.recv=true
  ·rw[if_pos aH]at bQ;exact s.frame _ a4 bQ.1.1
  ·rw[if_neg aH]at bQ;have cx:Sat V w:=(by have:=hc.sat 0 h.pos;rwa [kB]at this);have eP:V.role.chan=some p.c:=by
    unfold vg at hr;split at hr
    ·cases hr
    ·cases hr;rename_i e;rw[e];rfl
    ·cases hr;exact absurd rfl aH
    ·exact hr.elim
   rw[s.sat.own _ _ (s.chan _ _ eP bQ.1),cx.own _ _ bQ.1]
 refine Inv.mk' (by rw[aW];exact h.pos) h.k0 (by rw[Deaf_own,s.deaf,h.d0]) (λj x hj hx=> ?_) ?_ ?_ ?_
 ·rcases getElem?_next h.pos hx with⟨e,_⟩|⟨_,y,hy,rfl⟩
  ·omega
  ·rw[atO t (g:=j) (g':=0) (by omega) _ CM];have CW:=dg j y hj hy;have KP:j<gs.size:=(SR.1 hy).1;cases ph with
   |none=>
    obtain⟨q,hq,pk⟩:=CW;exact⟨q,hq,by rw[woken_quitsD pk];exact pk⟩
   |some p=>
    refine aao ?_ CW;rcases h.opens rfl with⟨n,x⟩|x
    ·exact .inl ⟨n,by rw[Rd p rfl];exact x⟩
    ·exact .inr (x.1 j hj KP)
 ·rw[aW,rZ (V:=V)];refine hc.step h.pos (by rw[kB];exact s) (λe he x hx hs=> ?_) g0.frame.fn g0.frame.place;cases ph with
  |none=>exact hs.elim
  |some p=>
   obtain⟨a1,a2,a3,a4,a5,a6,a7,a8,a9,bQ⟩:=gE;have pY:=Jb (s.eW e he) hx;by_cases aH:p.recv=true
   ·exfalso;rw[if_pos aH]at bQ;have b:jh p V:=⟨bQ.1.1,bQ.1.2.1,bQ.1.2.2.1,bQ.1.2.2.2⟩;rcases pY.1 with y|⟨y,_⟩|y
    ·exact b.Aq y.rd hs
    ·exact b.Aq y hs
    ·exact y (acs a4 a5 hs)
   ·rw[if_neg aH]at bQ;have i_:V.role.chan=some p.c/\V.role.group=some p.Wg:=by
     unfold vg at hr;split at hr
     ·cases hr
     ·cases hr;rename_i e;rw[e];exact⟨rfl,rfl⟩
     ·cases hr;exact absurd rfl aH
     ·exact hr.elim
    have jT:mR (some p) gs.size ic K 0:=by
     show iU p gs.size ic K 0;unfold iU;rw[if_neg aH];exact .inl rfl
    have CC:x.kind≠ .plain:=by
     intro hk;cases hl:x.loc with
     |cell a=>rw[hl]at hs;exact pY.2.2 _ a i_.2 hl hs hk
     |obj r=>rw[hl]at hs;exact pY.2.1 _ i_.1 (by rw[hl];exact congrArg _ hs)
     |_=>rw[hl]at hs;exact hs.elim
    cases hk:x.kind with
    |plain=>exact absurd hk CC
    |atomic=>exact .inl ⟨rfl,jT⟩
    |said=>exact .inr ⟨rfl,bQ.2.1.symm,jT⟩
 ·have v7:∀idx a,t.size<=idx->(∃op∈Ta 0 g0.frame.fn g0.frame.place es,(t++Ta 0 g0.frame.fn g0.frame.place es)[idx]?=some op/\op.act.touch?=some a)->Wi (t++Ta 0 g0.frame.fn g0.frame.place es) 0 idx:=λidx a _ ⟨op,az,hi,_⟩=>ej hi (CM op az);cases st with
  |none=>
   intro idx a ha hm;rcases AU ha with fX|⟨hi,x⟩
   ·obtain⟨op,az,_⟩:=UU fX;rcases mD idx a fX hm with x|⟨x,y⟩|⟨_,z,_⟩
    ·exact .inl (x.app _)
    ·exact .inr (.inl ⟨x,λz=>y ((Wo (TG az)).1 z)⟩)
    ·cases z
   ·exact .inl (v7 idx a hi x)
  |some s'=>
   exact mD.app (λidx a ha hx=> .inr (hx.app (by obtain⟨op,az,_⟩:=UU ha;exact TG az) λj _ _ hj=> .inl hj)) (λidx a hi x _=> .inl (v7 idx a hi x))
 ·cases ph with
  |none=>exact gE
  |some p=>
   obtain⟨a1,a2,a3,a4,a5,a6,a7,a8,a9,bQ⟩:=gE;refine⟨a1,a2,a3,Td a4 s.size,Td a5 s.size,a6,a7,λj j' m b1 b2 b3 b4=>a8 j j' m b1 (aW▸b2) b3 (aW▸b4),λj S b1 b2=>by rw[aW];exact a9 j S b1 b2,?_⟩;split
   ·rename_i aH;rw[if_pos aH]at bQ;obtain⟨c1,c2,c3,s',c4,c5⟩:=bQ;have b:jh p V:=⟨c1.1,c1.2.1,c1.2.2.1,c1.2.2.2⟩;have b':=b.step s a4 a5;refine⟨⟨b'.1,b'.2.1,b'.2.2.1,b'.2.2.2⟩,c2,by rw[aW];exact c3,s',c4,?_⟩;rw[aW];refine c5.keep (λ_=>rfl) (Rd p rfl) (s.frame _ a5 b.2.2.1) λrB g hg=> ?_;rcases getElem?_next h.pos hg with⟨e,_⟩|⟨_,y,hy,rfl⟩
    ·omega
    ·rw[Yl (rB y hy)];exact rB y hy
   ·rename_i aH;rw[if_neg aH]at bQ;have eP:V.role.chan=some p.c:=by
     unfold vg at hr;split at hr
     ·cases hr
     ·cases hr;rename_i e;rw[e];rfl
     ·cases hr;exact absurd rfl aH
     ·exact hr.elim
    exact⟨s.chan _ _ eP bQ.1,bQ.2.1,bQ.2.2.1,by rw[aW];exact bQ.2.2.2.1,bQ.2.2.2.2.1,by rw[aW];exact bQ.2.2.2.2.2⟩
end
theorem adg{x y:V_}{k:Nat}(hx:x.act=.go k)(hy:y.act=.start):∀op∈(#[x,y]:Un),op.act.touch?=none/\still op.act/\(∀B,op.act.low B)/\∀a,op.act≠ .mark (.release a):=by
 intro op az;simp only[TJ,SK,SZ,or_false]at az;rcases az with rfl|rfl
 ·rw[hx];exact⟨rfl,⟨by simp,by simp⟩,λ_=>trivial,by simp⟩
 ·rw[hy];exact⟨rfl,⟨by simp,by simp⟩,λ_=>trivial,by simp⟩
theorem Pn{t:Un}{N:Nat}(h:∀op∈t,op.g<N):UT t N=0:=by
 have key:∀k,k<=t.size->t.deaf N k=0:=by
  intro k;induction k with
  |zero=>intro _;rfl
  |succ k ih=>
   intro hk;have hy:t[k]?=some t[k]:=SJ (by omega);have aI:¬t[k].g=N:=(by have:=h t[k] (XU _);omega);rw[Z_ hy,ih (by omega)];unfold deafStep;split<;>simp[aI]
 exact key _ (SQ _)
section
variable {VV:Nat->View}{N:Nat}{w:To}{t:Un}{Sh:Loc->Prop}{act act':Nat->Prop}{ic kv n0:Nat}{W0:To}
theorem Core.spawn(h:Core VV N w t Sh act ic n0 W0)(h0:0<N)(a_:UT t 0=0){x y:V_}(hx:x.g=0/\x.act=.go N)(hy:y.g=N/\y.act=.start){U:View}(hi:U.ah=(VV 0).ah)(ho:U.own=λ_=>none)
  (jT:∀i,act' i->act i\/(i=N/\act 0)) (fK:kv=ic\/(kv=N/\ic=0)):Core (upd VV N U) (N+1) w (t++#[x,y]) Sh act' kv n0 W0:=by
 have jr:=adg hx.2 hy.2;have hdN:UT t N=0:=Pn h.ti.gs;have hk:∀{idx},Wi t 0 idx->Wi (t++#[x,y]) N idx:=λ{idx} jw=>fork_knows hx hy a_ hdN jw;have hsU:Sat U w:=⟨λb o v e=>(h.sat 0 h0).ah b o v (by rw[<- hi];exact e),λb x e=>by rw[ho]at e;cases e⟩;refine⟨λi cw=> ?_,λa b ha hb gB=> ?_,?_,h.tape,h.os,h.out,h.old,λi cw b hb=> ?_,h.n0⟩
 ·by_cases fh:i=N
  ·subst fh;rw[bw];exact hsU
  ·rw[bc _ _ fh];exact h.sat i (by omega)
 ·by_cases QZ:a=N
  ·subst QZ;rw[bw];intro q hq;rw[ho]at hq;exact absurd rfl hq
  ·rw[bc _ _ QZ];by_cases Q8:b=N
   ·subst Q8;rw[bw];intro q hq;refine⟨by rw[ho],λo hu=> ?_⟩;rw[hi]at hu;by_cases zE:a=0
    ·subst zE;exact hu
    ·exact(h.dL a 0 (by omega) h0 zE q hq).2 o hu
   ·rw[bc _ _ Q8];exact h.dL a b (by omega) (by omega) gB
 ·refine h.ti.mute (λop az=>(jr op az).1) (λop az=>(jr op az).2.2.1 _) (λop az=> ?_) (by omega) (λop az=>(jr op az).2.2.2) (λi cw l hl idx a ha gC rH=> ?_) (λi cw l hl idx a ha gC=> ?_) (λidx a ha db=>⟨λhp i cw=> ?_,λhp=> ?_⟩)
  ·simp only[TJ,SK,SZ,or_false]at az;rcases az with rfl|rfl
   ·omega
   ·omega
  ·obtain⟨_,cS,nk⟩:=hl;by_cases fh:i=N
   ·subst fh;rw[bw]at cS;have:gI (VV 0) l:=by
     cases l with
     |cell a'=>rcases cS with z|z;exact absurd (by rw[ho]) z;exact .inr (by rw[<- hi];exact z)
     |obj r=>exact absurd (by rw[ho]) cS
     |_=>exact cS.elim
    exact hk (h.ti.kr 0 h0 l ⟨h0,this,nk⟩ idx a ha gC rH)
   ·rw[bc _ _ fh]at cS;exact(h.ti.kr i (by omega) l ⟨by omega,cS,nk⟩ idx a ha gC rH).app _
  ·obtain⟨_,cS,nk⟩:=hl;by_cases fh:i=N
   ·subst fh;rw[bw]at cS;exfalso;cases l with
    |cell a'=>exact cS.1 (by rw[ho])
    |obj r=>exact cS (by rw[ho])
    |_=>exact cS.elim
   ·rw[bc _ _ fh]at cS;exact(h.ti.kw i (by omega) l ⟨by omega,cS,nk⟩ idx a ha gC).app _
  ·have:=h.ti.sp idx a ha db;rcases jT i cw with z|⟨rfl,z⟩
   ·exact(this.1 hp i z).app _
   ·exact hk (this.1 hp 0 z)
  ·have:=h.ti.sp idx a ha db;rcases fK with rfl|⟨rfl,rfl⟩
   ·exact(this.2 hp).app _
   ·exact hk (this.2 hp)
 ·by_cases fh:i=N
  ·subst fh;rw[bw,ho]
  ·rw[bc _ _ fh];exact h.jc i (by omega) b hb
end
section
variable {P:SI}{n0:Nat}{W0:To}{V:View}{gs gs':Array SG}{w w':To}{sl:Option (Nat×Nat)}{t:Un}{K:Nat->GS}{Im:cm}{ic:Nat}{ph:Option Phase}{p:Phase}{st st':Option ec}
theorem GS.adq{k:GS}(h:k.mX=false)(Im kD:cm):k.view kD=k.view Im:=by cases k<;>first|rfl|cases h
theorem GS.aly{k:GS}{c Wg d:Nat}{Im kD:cm}{Ss Of:List (List Spec)}{g:SG}(h:k.mX=false)(hS:∀(j:Nat) S,Ss[j]?=some S->Of[j]?=some S)(hk:k.is P c Wg Im Ss d g):k.is P c Wg kD Of d g:=by
 cases k with
 |work j hh V=>obtain⟨a,b,S,e,f⟩:=hk;exact⟨a,b,S,hS _ _ e,f⟩
 |nJ j hh V V' g0 v z=>obtain⟨a,b,c,d,sp,S,B,e,f⟩:=hk;exact⟨a,b,c,d,sp,S,B,hS _ _ e,f⟩
 |gone q=>exact hk
 |add n=>exact hk
 |load n=>exact hk
 |store n=>exact hk
 |mf n=>exact hk
 |head k n=>cases h
 |lU k n=>cases h
 |said n=>cases h
 |gZ n=>cases h
 |last n=>cases h
 |acq n=>cases h
 |look n=>cases h
 |close n=>cases h
theorem Inv.spawn(h:Inv P n0 W0 V gs w t K Im ic (some p) st)(aH:p.recv=false)(gA:V.deaf=0){g' child:SG}{x y:V_}(hx:x.g=0/\x.act=.go gs.size)(hy:y.g=gs.size/\y.act=.start){V':View}{p':Phase}{kD:cm}{kv:Nat}{k':GS}(hc:p'.c=p.c)(zD:p'.Wg=p.Wg)
  (qa:mo V' V) (uo:V'.deaf=V.deaf) (qn:(k'.view kD).ah=V.ah) (hvo:(k'.view kD).own=λ_=>none) (hSs:∀(j:Nat) S,p.Ss[j]?=some S->p'.Ss[j]?=some S) (Cm:k'.is P p.c p.Wg kD p'.Ss 0 child)
  (jT:∀i,i<gs.size->iU p' (gs.size+1) kv (upd K gs.size k') i->iU p gs.size ic K i) (fK:kv=ic\/kv=gs.size)
  (CD:yU P n0 V' ((gs.setIfInBounds 0 g').push child) w (t++#[x,y]) (upd K gs.size k') kD kv (some p') (some .early)):
  Inv P n0 W0 V' ((gs.setIfInBounds 0 g').push child) w (t++#[x,y]) (upd K gs.size k') kD kv (some p') (some .early):=by
 obtain⟨dg,gM,mD,gE⟩:=h.out;obtain⟨a1,a2,a3,a4,a5,a6,a7,a8,a9,bQ⟩:=gE;rw[if_neg (by rw[aH];simp)]at bQ;obtain⟨c1,c2,c3,c4,c5,c6⟩:=bQ;have aW:((gs.setIfInBounds 0 g').push child).size=gs.size+1:=by simp
 have jr:=adg hx.2 hy.2;have bx:∀i,UT (t++#[x,y]) i=UT t i:=λi=>Deaf_still λop az=>(jr op az).2.1;have CE:=h.pos;have a_:UT t 0=0:=by rw[h.d0,gA]
 have aX:∀i,0<i->(K i).mX=false:=λi hi=>by
  cases e:(K i).mX with
  |false=>rfl
  |true=>have:=h.rV hi e;omega
 have ajr:mR (some p) gs.size ic K 0:=by
  show iU p gs.size ic K 0;unfold iU;rw[if_neg (by rw[aH];simp)];exact .inl rfl
 have xG:=gM.spawn (act':=mR (some p') (gs.size+1) kv (upd K gs.size k')) (kv:=kv) CE a_ hx hy (U:=k'.view kD) (by rw[kB];exact qn) hvo (λi hi=>by
   by_cases fh:i<gs.size
   ·exact .inl (jT i fh hi)
   ·refine .inr ⟨?_,ajr⟩;have cw:iU p' (gs.size+1) kv (upd K gs.size k') i:=hi;unfold iU at cw;split at cw<;>omega) (fK.imp id λe=>⟨e,c2⟩)
 have ajQ:=(xG.less (i:=0) (V':=V') (by omega) (by rw[bc _ _ (by omega),kB];exact qa)).congr (El:=bE V' kD (upd K gs.size k')) λi hi=>by
  by_cases eJ:i=0
  ·subst eJ;rw[bw];simp[bE]
  ·rw[bc _ _ eJ];by_cases fh:i=gs.size
   ·subst fh;rw[bw];simp[bE,eJ,bw]
   ·rw[bc _ _ fh];simp only[bE,eJ,if_false,bc _ _ fh];exact GS.adq (aX i (by omega)) _ _
 refine Inv.mk' (by omega) (by rw[bc _ _ (by omega)];exact h.k0) (by rw[bx,uo];exact h.d0) (λi z hi hz=> ?_) ?_ ?_ CD
 ·rw[bx];show (upd K gs.size k' i).is P p'.c p'.Wg kD p'.Ss _ z;rw[hc,zD];by_cases fh:i=gs.size
  ·subst fh;rw[bw,Pn gM.ti.gs];have:z=child:=by
    rw[show gs.size=(gs.setIfInBounds 0 g').size by simp]at hz;rw[Array.getElem?_push_size]at hz;exact(Wj hz).symm
   rw[this];exact Cm
  ·have atf:i<gs.size:=(by have:=(SR.1 hz).1;omega);rw[bc _ _ fh];rw[Xg,if_neg (by simp;omega),SU (by omega)]at hz;exact GS.aly (aX i hi) hSs (dg i z hi hz)
 ·rw[aW];have e:rT (some p')=rT (some p):=by show qO p'.c p'.Wg=qO p.c p.Wg;rw[hc,zD]
  rw[e];exact ajQ
 ·have hr:Rest p.Wg t K ic st:=mD;rw[c3]at hr;show Rest p'.Wg _ _ _ _;rw[zD];intro idx a ha hm;have fX:=AW (λop az=>(jr op az).1) ha;obtain⟨op,az,_⟩:=UU fX;have hlt:=TG az;rcases hr idx a fX hm with z|⟨z1,z2⟩|⟨s,hs,jw⟩
  ·exact .inl (z.app _)
  ·exact .inr (.inl ⟨z1,λz=>z2 ((Wo hlt).1 z)⟩)
  ·cases hs;obtain⟨i,hg,hi,hz⟩:=jw;have fh:i<gs.size:=by
    obtain⟨op',bf,o5⟩:=Tp.1 hg;rw[<- o5];exact gM.ti.gs op' (XS bf)
   refine .inr (.inr ⟨.early,rfl,i,by rw[g?_old hlt];exact hg,hi,?_⟩);rcases hz with hz|hz|⟨r,hz,hle⟩
   ·exact .inl (by rw[bc _ _ (by omega)];exact hz)
   ·omega
   ·exact .inr (.inr ⟨r,hz.app,hle⟩)
theorem Sat.LU{c:Nat}{a:Nat}{x:Bool}{y z:Nat}{u:Bool}{ED:Array SO}(h:Sat V w)(hc:w.heap[c]?=some (.chan a ED x y z u))(o:Nat):V.ah c o=none:=by
 cases e:V.ah c o with
 |none=>rfl
 |some v=>have:=h.ah c o v e;simp[UA,hc]at this
theorem Inv.aa5(h:Inv P n0 W0 V gs w t K Im ic (some p) st)(aH:p.recv=false){i:Nat}(hi:0<i):(K i).mX=false:=by
 have hx:=h.phase.2.2.2.2.2.2.2.2.2;rw[if_neg (by rw[aH];simp)]at hx;cases e:(K i).mX with
 |false=>rfl
 |true=>have:=h.rV hi e;have:=hx.2.1;omega
theorem Inv.EZ(h:Inv P n0 W0 V gs w t K Im ic (some p) st)(aH:p.recv=false)(gA:V.deaf=0){g' child:SG}{x y:V_}(hx:x.g=0/\x.act=.go gs.size)(hy:y.g=gs.size/\y.act=.start){hh:Ht}{sp:Spec}{S:List Spec}(hlen:p.Ss.length<4)(n_:∀o,V.ah p.Wg o=none)
  (Cm:lg P hh {ah:=V.ah,own:=λ_=>none,deaf:=0,role:=.work p.c p.Wg (sp::S)} child):
  Inv P n0 W0 {V with role:=.fork p.c p.Wg (p.Ss++[sp::S])} ((gs.setIfInBounds 0 g').push child) w (t++#[x,y]) (upd K gs.size (.work p.Ss.length hh {ah:=V.ah,own:=λ_=>none,deaf:=0,role:=.work p.c p.Wg (sp::S)})) Im ic
   (some {p with Ss:=p.Ss++[sp::S]}) (some .early):=by
 obtain⟨dg,gM,mD,gE⟩:=h.out;obtain⟨a1,a2,a3,a4,a5,a6,a7,a8,a9,bQ⟩:=gE;rw[if_neg (by rw[aH];simp)]at bQ;obtain⟨c1,c2,c3,c4,c5,c6⟩:=bQ;have aW:((gs.setIfInBounds 0 g').push child).size=gs.size+1:=by simp
 have cx:Sat V w:=by have:=gM.sat 0 h.pos;rwa [kB]at this
 have zL:=cx.LU (cx.own _ _ c1);have cX:∀i j,0<i->i<gs.size->(K i).idx=some j->j<p.Ss.length:=λi j hi hlt e=>by
  have Rw:=dg i _ hi (SJ hlt);have KJ:(K i).is P p.c p.Wg Im p.Ss (UT t i) gs[i]:=Rw;cases kJ:K i<;>rw[kJ]at e KJ<;>simp[GS.idx]at e
  ·subst e;obtain⟨_,_,S,e,_⟩:=KJ;exact(SL.1 e).1
  ·subst e;obtain⟨_,_,_,_,_,_,_,e,_⟩:=KJ;exact(SL.1 e).1
 refine h.spawn aH gA hx hy rfl rfl ⟨λ_=> .inr rfl,λ_ _=> .inr rfl,λ_ _ _=>rfl⟩ rfl rfl rfl (λj S' e=> ?_) ⟨rfl,Cm,sp::S,by simp,rfl⟩ (λi hi jT=> ?_) (.inl rfl) ?_
 ·show (p.Ss++[sp::S])[j]?=some S';rw[SX (SL.1 e).1];exact e
 ·unfold iU at jT⊢;rw[if_neg (by show ¬p.recv=true;rw[aH];simp)]at jT;rw[if_neg (by rw[aH];simp)];rw[bc _ _ (by omega)]at jT;exact jT.imp id λz=>⟨hi,z.2⟩
 ·refine⟨a1,a2,a3,a4,a5,by simp only[S4,Uk,UR];omega,λi hi=> ?_,λi i' j b1 b2 b3 b4 b5 b6=> ?_,λj S' b1 b2=> ?_,?_⟩
  ·by_cases fh:i=gs.size
   ·subst fh;rw[bw];exact⟨rfl,zL,rfl,n_,λe=>by cases e⟩
   ·rw[bc _ _ fh];exact a7 i hi
  ·rw[aW]at b2 b4;by_cases e1:i=gs.size
   ·by_cases e2:i'=gs.size
    ·omega
    ·rw[bc _ _ e2]at b6;have:=cX i' j b3 (by omega) b6;subst e1;rw[bw]at b5;simp only[GS.idx,Tj]at b5;omega
   ·rw[bc _ _ e1]at b5;by_cases e2:i'=gs.size
    ·have:=cX i j b1 (by omega) b5;subst e2;rw[bw]at b6;simp only[GS.idx,Tj]at b6;omega
    ·rw[bc _ _ e2]at b6;exact a8 i i' j b1 (by omega) b3 (by omega) b5 b6
  ·rw[aW];by_cases hj:j<p.Ss.length
   ·have:p.Ss[j]?=some S':=by
     have IB:(p.Ss++[sp::S])[j]?=some S':=b1;rwa [SX hj]at IB
    obtain⟨i,e1,e2,e3⟩:=a9 j S' this b2;exact⟨i,e1,by omega,by rw[bc _ _ (by omega)];exact e3⟩
   ·have iw:j=p.Ss.length:=by
     have:=(SL.1 (show (p.Ss++[sp::S])[j]?=some S' from b1)).1;simp at this;omega
    exact⟨gs.size,h.pos,by omega,by rw[bw,iw];rfl⟩
  ·show if p.recv=true then _ else _;rw[if_neg (by rw[aH];simp)];refine⟨c1,c2,rfl,λi b1 b2=> ?_,λS' hS'=> ?_,?_⟩
   ·rw[aW]at b2;by_cases fh:i=gs.size
    ·subst fh;rw[bw];exact .inl rfl
    ·rw[bc _ _ fh];exact c4 i b1 (by omega)
   ·rcases SS.1 hS' with z|z
    ·exact c5 S' z
    ·simp at z;subst z;simp
   ·rw[aW,sumTo,bw,S4,<- c6];rw[Vl (g:=λi=>(K i).cnt) λi hi=>by rw[bc _ _ (by omega)]];rfl
theorem Inv.EY(h:Inv P n0 W0 V gs w t K Im ic (some p) st)(aH:p.recv=false)(gA:V.deaf=0){g' child:SG}{x y:V_}(hx:x.g=0/\x.act=.go gs.size)(hy:y.g=gs.size/\y.act=.start){n:Nat}
  (zD:V.own p.Wg=some (wgBlock P (((p.Ss.length:Nat):Int)* KK) 0)) (n_:∀o,V.ah p.Wg o=none) (Cm:cO P (ez P V.ah p.c p.Wg 5) n 0 child):
  Inv P n0 W0 {V with own:=λb=>if b=p.c\/b=p.Wg then none else V.own b,role:=.recv p.c p.Wg p.Ss} ((gs.setIfInBounds 0 g').push child) w (t++#[x,y]) (upd K gs.size (.head 5 n)) V.ah gs.size (some {p with recv:=true}) (some .early):=by
 obtain⟨dg,gM,mD,gE⟩:=h.out;obtain⟨a1,a2,a3,a4,a5,a6,a7,a8,a9,bQ⟩:=gE;rw[if_neg (by rw[aH];simp)]at bQ;obtain⟨c1,c2,c3,c4,c5,c6⟩:=bQ;have aW:((gs.setIfInBounds 0 g').push child).size=gs.size+1:=by simp
 have cx:Sat V w:=by have:=gM.sat 0 h.pos;rwa [kB]at this
 have zL:=cx.LU (cx.own _ _ c1);have CE:=h.pos;refine h.spawn aH gA hx hy rfl rfl ⟨λb=> ?_,λ_ _=> .inr rfl,λ_ _ _=>rfl⟩ rfl rfl rfl (λj S' e=>e) Cm (λi hi jT=> ?_) (.inr rfl) ?_
 ·by_cases e:b=p.c\/b=p.Wg
  ·exact .inl (by simp only[e,if_true])
  ·exact .inr (by simp only[e,if_false])
 ·unfold iU at jT⊢;rw[if_pos rfl]at jT;rw[if_neg (by rw[aH];simp)];rw[bc _ _ (by omega)]at jT;obtain⟨z1,_,z2⟩:=jT;rcases c4 i z1 hi with z|⟨q,z⟩
  ·exact .inr ⟨hi,z⟩
  ·exfalso;rw[z]at z2;rcases z2 with z2|z2|z2|z2
   ·cases z2
   ·omega
   ·cases z2
   ·cases z2
 ·refine⟨a1,a2,a3,a4,a5,a6,λi hi=> ?_,λi i' j b1 b2 b3 b4 b5 b6=> ?_,λj S' b1 b2=> ?_,?_⟩
  ·by_cases fh:i=gs.size
   ·subst fh;rw[bw];exact⟨rfl,zL,rfl,n_,λ_=>rfl⟩
   ·rw[bc _ _ fh,GS.adq (h.aa5 aH hi) Im];have:=a7 i hi;exact⟨this.1,this.2.1,this.2.2.1,this.2.2.2.1,λe=>by rw[h.aa5 aH hi]at e;cases e⟩
  ·rw[aW]at b2 b4;by_cases e1:i=gs.size
   ·subst e1;rw[bw]at b5;cases b5
   ·by_cases e2:i'=gs.size
    ·subst e2;rw[bw]at b6;cases b6
    ·rw[bc _ _ e1]at b5;rw[bc _ _ e2]at b6;exact a8 i i' j b1 (by omega) b3 (by omega) b5 b6
  ·obtain⟨i,e1,e2,e3⟩:=a9 j S' b1 b2;exact⟨i,e1,by omega,by rw[bc _ _ (by omega)];exact e3⟩
  ·show if true=true then _ else _;rw[if_pos rfl];refine⟨⟨by simp,zL,by simp,n_⟩,by omega,by rw[aW];omega,.early,rfl,?_⟩;rw[aW];have e1:sumTo (gs.size+1) (λi=>(upd K gs.size (.head 5 n) i).cnt)=p.Ss.length:=by
    rw[sumTo,bw,<- c6];rw[Vl (g:=λi=>(K i).cnt) λi hi=>by rw[bc _ _ (by omega)]];rfl
   have e2:sumTo (gs.size+1) (λi=>(upd K gs.size (.head 5 n) i).late)=0:=by
    have hz:∀N,sumTo N (λ_=>0)=0:=λN=>(by induction N with|zero=>rfl|succ N ih=>simp[sumTo,ih]);rw[sumTo,bw];rw[Vl (g:=λ_=>0) λi hi=> ?_,hz]
    ·rfl
    ·rw[bc _ _ (by omega)];rcases UF i with rfl|eJ
     ·rw[h.k0];rfl
     ·rcases c4 i eJ hi with z|⟨q,z⟩
      ·cases kJ:K i<;>rw[kJ]at z<;>first|rfl|cases z
      ·rw[z];rfl
   unfold Mode;simp only[e1,e2,bw];exact .inl ⟨⟨0,cx.own _ _ c1⟩,trivial,trivial,a6,cx.own _ _ zD,.inl ⟨5,rfl,by omega⟩⟩
theorem Inv.begin(h:Inv P n0 W0 V gs w t K Im ic none st){c Wg:Nat}(aI:c≠Wg)(hc:V.own c=some (.chan 0 #[] false 0 0 false)) (hW:V.own Wg≠none) (n_:∀o,V.ah Wg o=none):
  Inv P n0 W0 {V with role:=.fork c Wg []} gs w t (λi=>if i<gs.size then K i else .gone 0) Im 0 (some ⟨c,Wg,[],false⟩) (some .early):=by
 obtain⟨dg,gM,mD,gE⟩:=h.out;have cx:Sat V w:=by have:=gM.sat 0 h.pos;rwa [kB]at this
 have zL:=cx.LU (cx.own _ _ hc);have sS:∀i,(∃q,(if i<gs.size then K i else .gone 0)=GS.gone q):=λi=>by
  by_cases hi:i<gs.size
  ·rw[if_pos hi];rcases UF i with rfl|eJ
   ·exact⟨0,h.k0⟩
   ·obtain⟨q,hq,_⟩:=dg i _ eJ (SJ hi);exact⟨q,hq⟩
  ·rw[if_neg hi];exact⟨0,rfl⟩
 have h_:∀{b x},V.own b=some x->n0<=b/\b<w.heap.size:=λ{b x} e=>by
  refine⟨?_,cx.lt e⟩;apply Nat.le_of_not_lt;intro hb;have:=gM.jc 0 h.pos b hb;rw[kB,e]at this;cases this
 obtain⟨xW,hxW⟩:∃x,V.own Wg=some x:=by cases e:V.own Wg with|none=>exact absurd e hW|some x=>exact⟨x,rfl⟩
 have l7:∀i,0<i->((if i<gs.size then K i else .gone 0).view Im)=noView:=λi _=>by obtain⟨q,e⟩:=sS i;rw[e];rfl
 refine Inv.mk' h.pos (by rw[if_pos h.pos];exact h.k0) h.d0 (λi x hi hx=> ?_) ?_ ?_ ?_
 ·have hlt:i<gs.size:=(SR.1 hx).1;obtain⟨q,hq,hy⟩:=dg i x hi hx;show (if i<gs.size then K i else .gone 0).is P c Wg Im [] _ x;rw[if_pos hlt,hq];exact hy
 ·have aY:Core (bE {V with role:=.fork c Wg []} Im (λi=>if i<gs.size then K i else .gone 0)) gs.size w t (rT none) (mR none gs.size ic K) ic n0 W0:=by
   refine(gM.role (i:=0) (V':={V with role:=.fork c Wg []}) h.pos (by rw[kB]) (by rw[kB])).congr λi hi=> ?_;by_cases eJ:i=0
   ·subst eJ;rw[bw];simp[bE]
   ·rw[bc _ _ eJ];simp[bE,eJ,hi]
  refine⟨aY.sat,aY.dL,?_,aY.tape,aY.os,aY.out,aY.old,aY.jc,aY.n0⟩;refine aY.ti.weaken (SQ _) (λi l _ x=> .inl ⟨x.1,x.2.1,λz=>z.elim⟩) (λi l _ x=>⟨x.1,x.2.1,λz=>z.elim⟩) (λidx a ha db=> ?_);have hk:Wi t 0 idx:=by
   have x8:jB V a.loc:=by
    have Ad:qO c Wg a.loc:=db;cases hl:a.loc with
    |cell ad=>rw[hl]at Ad;have e:ad.block=Wg:=Ad;exact⟨by rw[e];exact hW,by rw[e];exact n_ _⟩
    |obj r=>rw[hl]at Ad;have e:r=c:=Ad;show V.own r≠none;rw[e,hc];simp
    |_=>rw[hl]at Ad;exact Ad.elim
   exact gM.ti.kw 0 h.pos a.loc ⟨h.pos,by rw[kB];exact x8,λz=>z.elim⟩ idx a ha rfl
  refine⟨λ_ i hi=> ?_,λ_=>hk⟩;have cw:iU ⟨c,Wg,[],false⟩ gs.size 0 (λi=>if i<gs.size then K i else .gone 0) i:=hi;unfold iU at cw;rw[if_neg (by simp)]at cw;rcases cw with rfl|⟨_,e⟩
  ·exact hk
  ·obtain⟨q,eq⟩:=sS i;simp only[eq]at e;cases e
 ·have aR:st=none:=gE;intro idx a ha hm;rcases mD idx a ha hm with z|z|⟨s,e,_⟩
  ·exact .inl z
  ·exact .inr (.inl z)
  ·rw[aR]at e;cases e
 ·refine⟨(h_ hc).1,(h_ hxW).1,aI,(h_ hc).2,(h_ hxW).2,by simp,λi hi=> ?_,λi i' j _ _ _ _ b5=> ?_,λj S b1=>by simp at b1,?_⟩
  ·rw[l7 i hi];exact⟨rfl,λ_=>rfl,rfl,λ_=>rfl,λe=>by obtain⟨q,eq⟩:=sS i;simp only[eq]at e;cases e⟩
  ·obtain⟨q,eq⟩:=sS i;simp only[eq]at b5;cases b5
  ·show if false=true then _ else _;rw[if_neg (by simp)];refine⟨hc,rfl,rfl,λi _ _=> .inr (sS i),by simp,?_⟩;have hz:∀N,sumTo N (λ_=>0)=0:=λN=>(by induction N with|zero=>rfl|succ N ih=>simp[sumTo,ih]);rw[Vl (g:=λ_=>0) λi _=>by obtain⟨q,eq⟩:=sS i;show (if i<gs.size then K i else GS.gone 0).cnt=0;rw[eq];rfl];exact hz _
theorem Inv.aqb(h:Inv P n0 W0 V gs w t K Im ic (some p) st)(aH:p.recv=true)(gA:V.deaf=0){g0 g':SG}{n:Nat}(aX:w.heap[p.c]?=some (.chan 0 #[] true n n false)) {y:V_} (hy:y.g=0/\y.act=.recvClosed p.c):
  (∀S∈p.Ss,S=[])/\Inv P n0 W0 {V with role:=.plain} (gs.setIfInBounds 0 g') w (t++#[y]) K Im ic none none:=by
 obtain⟨dg,gM,mD,gE⟩:=h.out;obtain⟨a1,a2,a3,a4,a5,a6,a7,a8,a9,bQ⟩:=gE;rw[if_pos aH]at bQ;obtain⟨c1,c2,c3,s,c4,c5⟩:=bQ;have xP:(∃pp n,s=.shut pp/\t.act? pp=some (.close p.c)/\t.heard pp/\w.heap[p.c]?=some (.chan 0 #[] true n n false))/\(sumTo gs.size λi=>(K i).late)=0/\(sumTo gs.size λi=>(K i).cnt)=0/\(K ic).shape=.gone 0:=by
  have no:¬∃n,w.heap[p.c]?=some (.chan 0 #[] false n n false):=λ⟨m,e⟩=>by rw[aX]at e;simp at e
  unfold Mode at c5;rcases c5 with m|m|m|m|m|m|m
  ·exact absurd m.1 no
  ·exact absurd m.1 no
  ·exact absurd m.1 no
  ·exact absurd m.1 no
  ·exact absurd m.1 no
  ·exact absurd m.1 no
  ·exact m
 obtain⟨⟨pp,n',rfl,m1,m2,_⟩,m3,m4,m5⟩:=xP;have sS:∀i,i<gs.size->∃q,K i=.gone q:=λi hi=>by
  have e1:(K i).cnt<=sumTo gs.size λi=>(K i).cnt:=Wz (f:=λi=>(K i).cnt) hi;have e2:(K i).late<=sumTo gs.size λi=>(K i).late:=Wz (f:=λi=>(K i).late) hi;rcases UF i with rfl|eJ
  ·exact⟨0,h.k0⟩
  ·have hc:=h.rV (i:=i) eJ;have z1:(K i).cnt=0:=(by omega);have z2:(K i).late=0:=(by omega);clear e1 e2;cases kJ:K i<;>rw[kJ]at z1 z2 hc<;>first
    |exact⟨_,rfl⟩
    |(exfalso;simp[GS.cnt]at z1;done)
    |(exfalso;simp[GS.late]at z2;done)
    |(exfalso;have:=hc rfl;subst this;rw[kJ]at m5;cases m5)
 have bV:jh p V:=⟨c1.1,c1.2.1,c1.2.2.1,c1.2.2.2⟩;have a_:UT t 0=0:=by rw[h.d0,gA]
 have nz:∀op∈(#[y]:Un),op.act.touch?=none/\still op.act/\op.act.low w.heap.size/\(∀a,op.act≠ .mark (.release a))/\op.g=0:=by
  intro op az;simp only[TJ,SK,SZ,or_false]at az;subst az;rw[hy.2];exact⟨rfl,⟨by simp,by simp⟩,a4,by simp,hy.1⟩
 have bx:∀i,UT (t++#[y]) i=UT t i:=λi=>Deaf_still λop az=>(nz op az).2.1;have aW:(gs.setIfInBounds 0 g').size=gs.size:=by simp
 refine⟨λS hS=> ?_,?_⟩
 ·obtain⟨j,hj⟩:=UQ.1 hS;apply Tt;intro aI;obtain⟨i,e1,e2,e3⟩:=a9 j S hj aI;obtain⟨q,e⟩:=sS i e2;rw[e]at e3;cases e3
 ·refine Inv.mk' (by rw[aW];exact h.pos) h.k0 (by rw[bx];exact h.d0) (λi x hi hx=> ?_) ?_ ?_ rfl
  ·rw[SU (by omega)]at hx;have hlt:i<gs.size:=(SR.1 hx).1;obtain⟨q,e⟩:=sS i hlt;have hk:(K i).is P p.c p.Wg Im p.Ss (UT t i) x:=dg i x hi hx;rw[e]at hk;rw[bx];exact⟨q,e,hk⟩
  ·rw[aW];have h1:=(gM.role (i:=0) (V':={V with role:=.plain}) h.pos (by rw[kB]) (by rw[kB])).congr (El:=bE {V with role:=.plain} Im K) λi hi=>by
    by_cases eJ:i=0
    ·subst eJ;rw[bw];simp[bE]
    ·rw[bc _ _ eJ];simp[bE,eJ]
   have aa9:∀i l,i<gs.size->gI (bE {V with role:=.plain} Im K i) l->¬qO p.c p.Wg l:=λi l hi hl=>by
    by_cases eJ:i=0
    ·subst eJ;have b':jh p (bE {V with role:=.plain} Im K 0):=(by simp only[bE,if_true];exact bV);exact b'.Aq hl
    ·obtain⟨q,e⟩:=sS i hi;have:bE {V with role:=.plain} Im K i=noView:=(by simp only[bE,eJ,if_false,e];rfl);rw[this]at hl;exact afO.Aq hl
   refine⟨h1.sat,h1.dL,?_,h1.tape,h1.os,h1.out,h1.old,h1.jc,h1.n0⟩;have v_:=h1.ti.mute (u:=#[y]) (N':=gs.size) (rd':=λi l=>i<gs.size/\gI (bE {V with role:=.plain} Im K i) l/\¬rT none l) (wr':=λi l=>i<gs.size/\jB (bE {V with role:=.plain} Im K i) l/\¬rT none l) (act':=mR (some p) gs.size ic K) (kv:=ic)
    (λop az=>(nz op az).1) (λop az=>(nz op az).2.2.1) (λop az=>by rw[(nz op az).2.2.2.2];exact h.pos) (SQ _) (λop az=>(nz op az).2.2.2.1)
    (λi hi l hl idx a ha gC hw=>(h1.ti.kr i hi l ⟨hl.1,hl.2.1,aa9 i l hi hl.2.1⟩ idx a ha gC hw).app _) (λi hi l hl idx a ha gC=>(h1.ti.kw i hi l ⟨hl.1,hl.2.1,aa9 i l hi hl.2.1.rd⟩ idx a ha gC).app _)
    (λidx a ha db=>⟨λhp i hi=>((h1.ti.sp idx a ha db).1 hp i hi).app _,λhp=>((h1.ti.sp idx a ha db).2 hp).app _⟩)
   exact v_.weaken (SQ _) (λ_ _ _ x=> .inl x) (λ_ _ _ x=>x) (λidx a _ hx=>hx.elim)
  ·have hr:Rest p.Wg t K ic st:=mD;rw[c4]at hr;intro idx a ha hm;have fX:=AW (λop az=>(nz op az).1) ha;obtain⟨op,az,_⟩:=UU fX;rcases hr idx a fX hm with z|⟨z1,z2⟩|⟨s,hs,hx⟩
   ·exact .inl (z.app _)
   ·exact .inr (.inl ⟨z1,λz=>z2 ((Wo (TG az)).1 z)⟩)
   ·cases hs;exact .inl (agf m1 m2 hy a_ hx)
theorem Inv.amP(h:Inv P n0 W0 V gs w t K Im ic (some p) st)(aH:p.recv=true)(x:SG):Inv P n0 W0 V (gs.setIfInBounds 0 x) w t K Im ic (some p) st:=by
 obtain⟨dg,gM,mD,gE⟩:=h.out;obtain⟨a1,a2,a3,a4,a5,a6,a7,a8,a9,bQ⟩:=gE;have aW:(gs.setIfInBounds 0 x).size=gs.size:=by simp
 rw[if_pos aH]at bQ;obtain⟨c1,c2,c3,s,c4,c5⟩:=bQ;refine Inv.mk' (by rw[aW];exact h.pos) h.k0 h.d0 (λi z hi hz=> ?_) (by rw[aW];exact gM) mD ⟨a1,a2,a3,a4,a5,a6,a7,by rw[aW];exact a8,by rw[aW];exact a9,?_⟩
 ·rw[SU (by omega)]at hz;exact dg i z hi hz
 ·rw[if_pos aH];refine⟨c1,c2,by rw[aW];exact c3,s,c4,?_⟩;rw[aW];have e0:t=t++#[]:=by simp
  rw[e0];exact c5.keep (λ_=>rfl) rfl rfl λrB g hg=>by rw[SU (by omega)]at hg;exact rB g hg
end
def MJ (P:SI)(Post:SO->To->Prop)(n0:Nat)(W0:To)(V:View)(g:SG):Prop:=
 g.status=.running/\∀gs w sl t K Im ic ph st,Inv P n0 W0 V gs w t K Im ic ph st->vg V.role ph->j9 gs g->Ok P Post (crowd gs w sl) t
section
variable {P:SI}{Post:SO->To->Prop}{n0:Nat}{W0:To}
def adP (P:SI)(Post:SO->To->Prop)(gs:Array SG)(w:To)(sl:Option (Nat×Nat))(t:Un):Prop:=
 (∃m' ops,runT P (crowd gs w sl) 0=(.next m',ops)/\Ok P Post m' (t++ops))\/∃o w' ops,runT P (crowd gs w sl) 0=(.ended o w',ops)/\∀w0 DJ,WW P Post (crowd gs w0 DJ) o w' (t++ops)
theorem j9.pos{gs:Array SG}{g:SG}(h:j9 gs g):∃(i:Nat)(x:SG),gs[i]?=some x/\x.status=.running:=by
 obtain⟨g0,h0,h1,_⟩:=h;exact⟨0,g0,h0,h1⟩
theorem MJ.iD{V:View}{g:SG}(hg:g.status=.running)(own:∀gs w sl t K Im ic ph st,Inv P n0 W0 V gs w t K Im ic ph st->vg V.role ph->j9 gs g->adP P Post gs w sl t):MJ P Post n0 W0 V g:=by
 refine⟨hg,λgs w sl t K Im ic ph st h hr hm=> ?_⟩;generalize hN:gs.size=N;generalize hμ:((λj=>(K j).cZ),flag gs ic)=μ;induction μ using(aa1 N).induction generalizing gs w sl t K st with
 |_ μ ih=>
  obtain⟨i,gi,d,oC,aM,bI,aR⟩:=ZT (P:=P) (w:=w) (sl:=sl) (h.awake (.inl hm)) hm.pos;have hd:=h.draw d;rcases UF i with rfl|hi
  ·rcases own _ _ oC _ _ _ _ _ _ hd hr hm with⟨m',ops,h1,h2⟩|⟨o,w',ops,h1,h2⟩
   ·exact Ok.step (aR.trans h1) h2
   ·exact Ok.end (aR.trans h1) (h2 w sl)
  ·rcases hd.other (sl:=oC) (.inl hm) hi aM bI with⟨gs',w',ops,K',st',h1,h2,h3,h4,_,h5⟩|⟨p,_,_,gN⟩
   ·have o1:j9 gs' g:=by
     cases ph with
     |none=>exact(h4 g 0 (by simp)).1 hm
     |some p=>exact(h4 g p.c (λq hq=>by cases hq;rfl)).1 hm
    exact Ok.step (aR.trans h1) (ih _ (by rw[<- hμ,<- hN];exact h5) gs' w' oC _ K' st' h3 o1 (by rw[h2,hN]) rfl)
   ·obtain⟨g0,h0,hs,_⟩:=hm;obtain⟨g1,z,h1,_⟩:=gN;rw[h1]at h0;cases h0;cases hs
theorem MJ.recv{V:View}{g:SG}{c Wg:Nat}{Ss:List (List Spec)}{z:SO}(i_:V.role=.recv c Wg Ss)(gA:V.deaf=0)(hg:g.status=.running)
  (kT:∀w,Sat V w->stepG P true g w=.comm g #[rcase c z] true (.recv true) w #[])
  (J1:∀(i:Nat) sp S v Im Ow,Ss[i]?=some (sp::S)->sp v Im Ow->(∀b,V.own b≠none->Ow b=none)->(∀b o,V.own b≠none->Im b o≠none->V.ah b o≠none)->(∃w,Sat V w/\(∀b o x,Im b o=some x->w.cell? ⟨b,o,none⟩=some x)/\∀b x,Ow b=some x->w.heap[b]?=some x)->
   MJ P Post n0 W0 (nE V Im Ow (.recv c Wg (Ss.set i S))) (T7 g (.tuple #[v,.bool true])))
  (J2:(∀S∈Ss,S=[])->MJ P Post n0 W0 {V with role:=.plain} (T7 g (.tuple #[z,.bool false]))):MJ P Post n0 W0 V g:=by
 have met:∀{gs w sl t K Im ic st i},Inv P n0 W0 V gs w t K Im ic (some ⟨c,Wg,Ss,true⟩) st->Ei P n0 W0 V gs w sl t Im ic ⟨c,Wg,Ss,true⟩ st g i->∀{m},stepT P m=runT P (crowd gs w sl) i->Ok P Post m t:=by
  rintro gs w sl t K Im ic st i _ ⟨gs',w',ops,K',j,sp,S,v,kD,Ow,h1,h2,h3,h4,h5,h6,h6',h7,h8⟩ m hm
  exact Ok.step (hm.trans h1) ((J1 j sp S v kD Ow h4 h5 h6 h6' h7).2 gs' w' sl _ K' Im ic _ st h8 rfl h3)
 refine⟨hg,λgs w sl t K Im ic ph st h hr hm=> ?_⟩;have gE:ph=some ⟨c,Wg,Ss,true⟩:=by rw[i_]at hr;exact hr
 subst gE
 suffices key:∀N μ gs w sl t K st,Inv P n0 W0 V gs w t K Im ic (some ⟨c,Wg,Ss,true⟩) st->gs.size=N->((λj=>(K j).cZ),flag gs ic)=μ->(j9 gs g\/(nP gs g c/\Calm gs/\yT w c))->Ok P Post (crowd gs w sl) t from key _ _ gs w sl t K st h rfl rfl (.inl hm)
 clear h hr hm;intro N μ;induction μ using(aa1 N).induction with
 |_ μ ih=>
  have A:∀gs w sl t K st,Inv P n0 W0 V gs w t K Im ic (some ⟨c,Wg,Ss,true⟩) st->gs.size=N->((λj=>(K j).cZ),flag gs ic)=μ->nP gs g c->Calm gs->yT w c->Ok P Post (crowd gs w sl) t:=by
   intro gs w sl t K st h hN hμ gN sN ho;have ru:j9 gs g\/∃p,some (Phase.mk c Wg Ss true)=some p/\p.recv=true/\V.deaf=0/\nP gs g p.c:=.inr ⟨_,rfl,rfl,gA,gN⟩;have ald:∃(i:Nat)(x:SG),gs[i]?=some x/\x.status=.running:=by
    obtain⟨i,x,_,h1,h2⟩:=h.aqf rfl ho sN;exact⟨i,x,h1,h2⟩
   obtain⟨i,gi,d,oC,aM,bI,aR⟩:=ZT (P:=P) (w:=w) (sl:=sl) (h.awake ru) ald;have hd:=h.draw d;have hi:0<i:=by
    rcases UF i with rfl|hi
    ·obtain⟨g1,z1,h1,_⟩:=gN;rw[h1]at aM;cases aM;cases bI
    ·exact hi
   rcases hd.other (sl:=oC) ru hi aM bI with⟨gs',w',ops,K',st',h1,h2,h3,h4,h5,h6⟩|⟨p,hp,uy,_⟩
   ·refine Ok.step (aR.trans h1) (ih _ (by rw[<- hμ,<- hN];exact h6) gs' w' oC _ K' st' h3 (by rw[h2,hN]) rfl ?_);rcases(h4 g c (λq hq=>by cases hq;rfl)).2 gN ho with x|⟨x,y⟩
    ·exact .inl x
    ·exact .inr ⟨x,h5 g c gN sN,y⟩
   ·cases hp;exact met hd uy aR
  intro gs w sl t K st h hN hμ o1;rcases o1 with hm|⟨h1,h2,h3⟩
  ·obtain⟨i,gi,d,oC,aM,bI,aR⟩:=ZT (P:=P) (w:=w) (sl:=sl) (h.awake (.inl hm)) hm.pos;have hd:=h.draw d;rcases UF i with rfl|hi
   ·
    obtain⟨g0,h0,lr,kM,iJ,mB⟩:=hm;have fj:Sat V (w.at d):=(by have:=hd.core.sat 0 h.pos;rwa [kB]at this);have kS:stepG P (0==0) g0 (w.at d)=.comm g #[rcase c z] true (.recv true) (w.at d) #[]:=(by rw[<- kT _ fj];exact Xb kM iJ mB _);have e0:(t++Ta 0 g0.frame.fn g0.frame.place #[])=t:=(by simp[Ta]);rcases hd.opens rfl with⟨n,gD⟩|⟨akt,⟨n,aX⟩,_⟩
    ·by_cases Si:∃i j h' V₁ V₂ g1 v z1,0<i/\i<gs.size/\K i=.nJ j h' V₁ V₂ g1 v z1
     ·exact met hd (hd.ao7 (sl:=oC) rfl gA ⟨g0,h0,lr,kM,iJ,mB⟩ (kT _ fj) Si) aR
     ·have offers:∀m x,0<m->gs[m]?=some x->x.status=.blocked->x.offers=none:=by
       intro m x iM hx hb;rcases GS.runs (show (K m).is P c Wg Im Ss (UT t m) x from h.is m x iM hx)with e|⟨e,_⟩|⟨j,h',V1,V2,g1,v,z1,e⟩|⟨_,_,e⟩
       ·rw[e]at hb;cases hb
       ·rw[e]at hb;cases hb
       ·exact absurd ⟨m,j,h',V1,V2,g1,v,z1,iM,(SR.1 hx).1,e⟩ Si
       ·exact e
      have hw:=crowd_waits (P:=P) (sl:=oC) (i:=0) h0 kS (λcc iY=>by
       simp only[TJ,SK,SZ,or_false]at iY;subst iY;refine ways_recv_none gD (partners_nil λm x hx=> ?_);rcases X_ gs 0 m x hx with⟨_,rfl⟩|⟨iM,jw⟩
       ·exact Zl _ _
       ·by_cases hb:x.status=.blocked
        ·unfold offersAt;simp[hb,offers m x (by omega) jw hb]
        ·exact UV hb _ _)
      refine Ok.step (aR.trans hw) ?_;rw[e0];refine A _ (w.at d) oC t K st (hd.amP rfl _) (by simp[hN]) ?_ ⟨g,z,?_,rfl,rfl,rfl⟩ (λm x iM hx hb=> ?_) ⟨n,gD⟩
      ·rw[<- hμ];have fK:0<ic:=(by obtain⟨_,_,x,_⟩:=h.mode rfl;exact x);unfold flag;rw[SU (by omega)]
      ·rw[S_ h.pos]
      ·rw[SU (by omega)]at hx;exact offers m x iM hx hb
    ·have hp:partners (gs.setIfInBounds 0 ph) c true=[]:=partners_nil λm x hx=>by
      rcases X_ gs 0 m x hx with⟨_,rfl⟩|⟨iM,jw⟩
      ·exact Zl _ _
      ·have hlt:m<gs.size:=(SR.1 jw).1;rcases GS.runs (show (K m).is P c Wg Im Ss (UT t m) x from h.is m x (by omega) jw)with e|⟨e,_⟩|⟨j,h',V1,V2,g1,v,z1,e⟩|⟨_,eb,e⟩
       ·exact UV (by rw[e];simp) _ _
       ·exact UV (by rw[e];simp) _ _
       ·have:=akt m (by omega) hlt;rw[e]at this;cases this
       ·unfold offersAt;simp[eb,e]
     have hw:=crowd_recv_closed (P:=P) (sl:=oC) (i:=0) h0 kS aX hp;refine Ok.step (aR.trans hw) ?_;rw[Yx,<- Xr,e0];obtain⟨hS,hinv⟩:=hd.aqb rfl gA (g0:=g0) (g':=T7 g (recvd true z false)) aX (y:={g:=0,fn:=g.frame.fn,pos:=g.frame.place,act:=.recvClosed c}) ⟨rfl,rfl⟩;exact(J2 hS).2 _ (w.at d) oC _ K Im ic none none hinv rfl ⟨T7 g (recvd true z false),by rw[S_ h.pos],rfl,rfl,rfl,rfl⟩
   ·rcases hd.other (sl:=oC) (.inl hm) hi aM bI with⟨gs',w',ops,K',st',h1,h2,h3,h4,_,h5⟩|⟨p,_,_,gN⟩
    ·exact Ok.step (aR.trans h1) (ih _ (by rw[<- hμ,<- hN];exact h5) gs' w' oC _ K' st' h3 (by rw[h2,hN]) rfl (.inl ((h4 g c (λq hq=>by cases hq;rfl)).1 hm)))
    ·obtain⟨g0,h0,hs,_⟩:=hm;obtain⟨g1,z1,h1,_⟩:=gN;rw[h1]at h0;cases h0;cases hs
  ·exact A gs w sl t K st h hN hμ h1 h2 h3
theorem am3:Closed true P true (MJ P Post n0 W0)where
 step V g hs h:=by
  refine MJ.iD hs λgs w sl t K Im ic ph st hI hr ⟨g0,h0,lr,kM,iJ,mB⟩=> .inl ?_;have fj:Sat V w:=by have:=hI.core.sat 0 hI.pos;rwa [kB]at this
  obtain⟨g',w',es,V',h1,h2,h3⟩:=h w fj;have aR:stepG P (0==0) g0 w=.go g' w' es:=by rw[<- h1];exact Xb kM iJ mB w
  refine⟨_,_,runT_crowd_go h0 aR,h3.2 _ w' sl _ K Im ic ph st (hI.aaT h0 h2 hr) (by rw[h2.role];exact hr) ⟨g',?_,h3.1,rfl,rfl,rfl⟩⟩;rw[S_ (by simpa using hI.pos)]
 ghost V V' g hg h:=⟨h.1,λgs w sl t K Im ic ph st hI hr hm=>h.2 gs w sl t K Im ic ph st (hI.amO hg hr) (by rw[hg.role];exact hr) hm⟩
 send V g c Wg sp S v z B hr hd hs ho h1 h2 h3:=⟨hs,λgs w sl t K Im ic ph st hI bW hm=>by rw[hr]at bW;exact bW.elim⟩
 done V g c Wg hr hd h1:=⟨h1.1,λgs w sl t K Im ic ph st hI bW hm=>by rw[hr]at bW;exact bW.elim⟩
 slip V g g' c Wg hr hs h1 h2:=⟨hs,λgs w sl t K Im ic ph st hI bW hm=>by rw[hr]at bW;exact bW.elim⟩
 more _:={
  start:=λV g c Wg hr aI hc hW n_ h=>⟨h.1,λgs w sl t K Im ic ph st hI bW hm=>by
   rw[hr]at bW;cases bW;exact h.2 gs w sl t _ Im 0 _ _ (hI.begin aI hc hW n_) rfl hm⟩
  EZ:=λV g g' child c Wg Ss sp S hr hd hs hc hW hlen n_ aR eP LC h=>by
   refine MJ.iD hs λgs w sl t K Im ic ph st hI bW ⟨g0,h0,lr,kM,iJ,mB⟩=> .inl ?_;rw[hr]at bW;cases bW;have fj:Sat V w:=(by have:=hI.core.sat 0 hI.pos;rwa [kB]at this);have lC:stepG P (0==0) g0 w=.spawn g' child w #[]:=(by rw[<- aR w fj];exact Xb kM iJ mB w);obtain⟨hh,hk⟩:=LC _ (arY P);have bI:=Z9 (P:=P) (sl:=sl) h0 lC;have e0:Ta 0 g0.frame.fn g0.frame.place #[]=#[]:=rfl;rw[e0]at bI;have hinv:=hI.EZ (g':=g') (x:={g:=0,fn:=g0.frame.fn,pos:=g0.frame.place,act:=.go gs.size}) (y:={g:=gs.size,fn:=child.frame.fn,pos:=g0.frame.place,act:=.start}) rfl hd ⟨rfl,rfl⟩ ⟨rfl,rfl⟩ hlen n_ hk;exact⟨_,_,bI,h.2 _ w sl _ _ Im ic _ _ hinv rfl ⟨g',by rw[Xg,if_neg (by simp;have:=hI.pos;omega),S_ hI.pos],h.1,rfl,rfl,rfl⟩⟩
  EY:=λV g g' child c Wg Ss hr hd hs aI hc hW zL n_ aR eP aX h=>by
   refine MJ.iD hs λgs w sl t K Im ic ph st hI bW ⟨g0,h0,lr,kM,iJ,mB⟩=> .inl ?_;rw[hr]at bW;cases bW;have fj:Sat V w:=(by have:=hI.core.sat 0 hI.pos;rwa [kB]at this);have lC:stepG P (0==0) g0 w=.spawn g' child w #[]:=(by rw[<- aR w fj];exact Xb kM iJ mB w);obtain⟨n,hk⟩:=aX;have bI:=Z9 (P:=P) (sl:=sl) h0 lC;have e0:Ta 0 g0.frame.fn g0.frame.place #[]=#[]:=rfl;rw[e0]at bI;have hinv:=hI.EY (g':=g') (x:={g:=0,fn:=g0.frame.fn,pos:=g0.frame.place,act:=.go gs.size}) (y:={g:=gs.size,fn:=child.frame.fn,pos:=g0.frame.place,act:=.start}) rfl hd ⟨rfl,rfl⟩ ⟨rfl,rfl⟩ hW n_ hk;exact⟨_,_,bI,h.2 _ w sl _ _ V.ah gs.size _ _ hinv rfl ⟨g',by rw[Xg,if_neg (by simp;have:=hI.pos;omega),S_ hI.pos],h.1,rfl,rfl,rfl⟩⟩
  recv:=λV g c Wg Ss z hr hd hs ho aR j1 j2=>MJ.recv hr hd hs aR j1 j2}
structure Left (n0:Nat)(W0 w:To):Prop where
 tape:w.tape=W0.tape
 os:w.os=W0.os
 out:w.output=W0.output
 old:∀b,b<n0->w.heap[b]?=W0.heap[b]?
 size:n0<=w.heap.size
theorem Inv.JH{V:View}{gs:Array SG}{w:To}{t:Un}{K:Nat->GS}{Im:cm}{ic:Nat}{st:Option ec}(h:Inv P n0 W0 V gs w t K Im ic none st){v:SO}(hp:Post v w)(w0:To)(DJ:Option (Nat×Nat)):WW P Post (crowd gs w0 DJ) (.done v) w t:=by
 obtain⟨dg,gM,mD,aR⟩:=h.out;have lC:st=none:=aR;refine⟨v,rfl,hp,gM.ti.nr,?_,⟨?_,rfl⟩,?_⟩
 ·intro i g hg lr ⟨x,hx,hm,hk⟩;rcases mD i x hx hm with⟨q,z,h1,h2,h3⟩|⟨h1,h2⟩|⟨_,h1,_⟩
  ·rcases h3 with rfl|h3
   ·exfalso;simp only[Wx,h1,UP,Tj]at hg;omega
   ·exact⟨q,by simp[Wx,h1,h2],h3⟩
  ·rcases hk with hk|hk
   ·exact absurd h1 hk
   ·exact absurd hk h2
  ·rw[lC]at h1;cases h1
 ·intro g hg;obtain⟨i,hi⟩:=UQ.1 hg;rw[Uo]at hi;have cw:gs[1+i]?=some g:=by simpa[crowd]using hi
  obtain⟨q,_,hq⟩:=dg (1+i) g (by omega) cw;exact⟨q,hq.leaves⟩
 ·intro i g hi eJ;obtain⟨q,_,hq⟩:=dg i g (by omega) hi;exact⟨q,hq.hears _⟩
theorem MJ.end{V:View}{g:SG}(hg:g.status=.running)(hr:V.role=.plain)
  (h:∀w,Sat V w->Left n0 W0 w->(∀b,b<n0->V.own b=none)->∃v w' es V',stepG P true g w=.ended (.done v) w' es/\dc V w V' w' es/\Post v w'):MJ P Post n0 W0 V g:=by
 refine MJ.iD hg λgs w sl t K Im ic ph st hI bW ⟨g0,h0,lr,kM,iJ,mB⟩=> .inr ?_;have gM:=hI.out.2.1;have fj:Sat V w:=by have:=hI.core.sat 0 hI.pos;rwa [kB]at this
 obtain⟨v,w',es,V',h1,h2,h3⟩:=h w fj ⟨gM.tape,gM.os,gM.out,gM.old,gM.n0⟩ (λb hb=>by have:=gM.jc 0 hI.pos b hb;rwa [kB]at this);have aR:stepG P (0==0) g0 w=.ended (.done v) w' es:=by rw[<- h1];exact Xb kM iJ mB w
 refine⟨_,w',_,runT_crowd_ended h0 aR,λw0 DJ=> ?_⟩;have gE:ph=none:=by rw[hr]at bW;exact bW
 subst gE;have hinv:=hI.aaT (g':=g0) h0 h2 bW;have sR:=hinv.JH (Post:=Post) h3 w0 DJ;obtain⟨v',e,hp,hn,hh,hl,hd⟩:=sR;refine⟨v',e,hp,hn,hh,⟨?_,rfl⟩,?_⟩
 ·intro g Kx;obtain⟨i,hi⟩:=UQ.1 Kx;rw[Uo]at hi;have cw:gs[1+i]?=some g:=by simpa[crowd]using hi
  obtain⟨q,_,hq⟩:=hI.out.1 (1+i) g (by omega) cw;exact⟨q,hq.leaves⟩
 ·intro i g hi eJ;obtain⟨q,_,hq⟩:=hI.out.1 i g (by omega) hi;refine⟨q,?_⟩;have:(t++Ta 0 g0.frame.fn g0.frame.place es).deaf i (t++Ta 0 g0.frame.fn g0.frame.place es).size=UT t i:=
   atO t (g:=i) (g':=0) (by omega) _ λop az=>by obtain⟨e,_,rfl⟩:=TL az;rfl
  rw[this];exact hq.hears _
theorem Inv.init(W:To){V:View}(ho:V.own=λ_=>none)(hd:V.deaf=0)(hs:Sat V W)(g:SG):Inv P W.heap.size W V #[g] W #[] (λ_=> .gone 0) V.ah 0 none none:=by
 have fi:∀i,i<(1:Nat)->bE V V.ah (λ_=> .gone 0) i=V:=λi hi=>by
  obtain rfl:i=0:=by omega
  simp[bE]
 refine Inv.mk' (by simp) rfl (by rw[hd];rfl) (λi x hi hx=> ?_) ⟨λi hi=>by rw[fi i hi];exact hs,λi j hi hj jY=> ?_,?_,rfl,rfl,rfl,λ_ _=>rfl,λi hi b _=>by rw[fi i hi,ho],SQ _⟩ ?_ rfl
 ·exfalso;have:=(SR.1 hx).1;simp at this;omega
 ·simp at hi hj;omega
 ·refine⟨λsaid hr=> ?_,by simp,by simp,by simp,λi _ l _ idx a ha=> ?_,λi _ l _ idx a ha=> ?_,λidx a ha=> ?_⟩
  ·obtain⟨i,j,_,⟨a,b,ha,_⟩,_⟩:=hr;obtain⟨op,az,_⟩:=UU ha;simp at az
  ·obtain⟨op,az,_⟩:=UU ha;simp at az
  ·obtain⟨op,az,_⟩:=UU ha;simp at az
  ·obtain⟨op,az,_⟩:=UU ha;simp at az
 ·intro idx a ha _;obtain⟨op,az,_⟩:=UU ha;simp at az
theorem aje{f:TS}{args:Array SO}{W:To}{V:View}{R:Out->View->Prop}(hi:P.inits.idxOf? f=none)(ho:V.own=λ_=>none)(hd:V.deaf=0)(bW:V.role=.plain)(hs:Sat V W)(h:Body true P f args .normal V R)
  (hR:∀o V',R o V'->V'.role=.plain/\∃v,o=.ret v/\∀w,Sat V' w->Left W.heap.size W w->Post v w):
  ∃M last o w' t',runNT P (M+1) (solo (G (Frame.enter P f args .normal) []) W) #[]=(.ended o w',t')/\runN P M (solo (G (Frame.enter P f args .normal) []) W)=.next last/\step P last=.ended o w'/\WW P Post last o w' t':=by
 have hJ:MJ P Post W.heap.size W V (G (Frame.enter P f args .normal) []):=by
  refine h true _ am3 [] λo V' fr r hl=> ?_;obtain⟨hr,v,rfl,hp⟩:=hR _ _ r;obtain⟨rfl,bx,hk,fn,hf,hm,gg⟩:=hl;refine MJ.end rfl hr λw hw zW hold=> ?_;obtain⟨es,w',aS,h1,h2,h3⟩:=gg.runs hw;rcases h3 with⟨x,h3,rfl,rfl⟩|⟨_,_,hx⟩
  ·refine⟨x,w',seen P fr.fn es,aS,by simp[G,stepG,unwind,doReturn,hm,bx,hk,hf,h3,h2,T5,hi],h1.seen P fr.fn,?_⟩;refine hp w' h1.sat ⟨h1.tape.trans zW.tape,h1.os.trans zW.os,h1.output.trans zW.out,λb hb=> ?_,UL zW.size h1.size⟩;rw[h1.frame b (Td hb zW.size) (hold b hb)];exact zW.old b hb
  ·exact hx.elim
 exact hJ.2 #[_] W none #[] _ _ _ none none (Inv.init W ho hd hs _) (by rw[bW];rfl) ⟨_,rfl,rfl,rfl,rfl,rfl⟩
end
def gk (P:SI)(main:Bool)(g:SG):SG:=match stepG P main g default with
 |.go g' _ _=>g'
 |_=>g
def Ar (P:SI)(main:Bool)(g:SG):Array Ur:=match stepG P main g default with
 |.go _ _ es=>es
 |_=>#[]
def cz (P:SI)(main:Bool):Nat->SG->SG
 |0,g=>g
 |n+1,g=>cz P main n (gk P main g)
def fE (P:SI)(main:Bool)(w:To):Nat->SG->List ZA
 |0,_=>[]
 |n+1,g=>stepG P main g w::fE P main w n (gk P main g)
def fw (P:SI)(main:Bool)(w:To):Nat->SG->List ZA
 |0,_=>[]
 |n+1,g=> .go (gk P main g) w (Ar P main g)::fw P main w n (gk P main g)
def bN (g:SG):Bool:=match g.status with
 |.running=>true
 |_=>false
theorem bN.out{g:SG}(h:bN g=true):g.status=.running:=by
 unfold bN at h;split at h
 ·assumption
 ·cases h
def iP (P:SI)(main:Bool):Nat->SG->Bool
 |0,_=>true
 |n+1,g=>bN g&&(Ar P main g).all WC&&iP P main n (gk P main g)
def oz (P:SI)(main:Bool):Nat->SG->Bool
 |0,_=>true
 |n+1,g=>bN g&&(Ar P main g).isEmpty&&oz P main n (gk P main g)
def jF (P:SI)(main:Bool):Nat->Nat->SG->Nat
 |0,d,_=>d
 |n+1,d,g=>jF P main n (deafBehind d (Ar P main g)) (gk P main g)
section
variable {P:SI}
theorem Mx{n:Nat}{main:Bool}{g:SG}(h:iP P main (n+1) g=true):g.status=.running/\(∀e∈Ar P main g,WC e=true)/\iP P main n (gk P main g)=true:=by
 simp only[iP,Tg]at h;exact⟨bN.out h.1.1,λe he=>UJ.1 h.1.2 e he,h.2⟩
theorem wC{Stop:Nat->SG->Prop}:∀(n d:Nat)(g:SG),(∀w,fE P false w n g=fw P false w n g)->iP P false n g=true->(∃m,cO P Stop m (jF P false n d g) (cz P false n g))->∃m,cO P Stop m d g
 |0,d,g,_,_,hs=>hs
 |n+1,d,g,h,hm,hs=>by
  obtain⟨h1,h2,h3⟩:=Mx hm;obtain⟨m,hm⟩:=wC n _ (gk P false g) (λw=>(Vv (h w)).2) h3 hs;exact⟨m+1,.inr ⟨h1,_,_,h2,λw=>(Vv (h w)).1,hm⟩⟩
theorem acA{Wg:Nat}{Stop:Nat->SG->Prop}:∀(n d:Nat)(g:SG),(∀w,fE P false w n g=fw P false w n g)->iP P false n g=true->(∃m,gX P Wg Stop m (jF P false n d g) (cz P false n g))->∃m,gX P Wg Stop m d g
 |0,d,g,_,_,hs=>hs
 |n+1,d,g,h,hm,hs=>by
  obtain⟨h1,h2,h3⟩:=Mx hm;obtain⟨m,hm⟩:=acA n _ (gk P false g) (λw=>(Vv (h w)).2) h3 hs;exact⟨m+1,.inr ⟨h1,_,_,h2,λw _ _ _=>(Vv (h w)).1,hm⟩⟩
theorem acB{Wg:Nat}{Stop:Nat->SG->Prop}{d:Nat}{g g':SG}(hr:g.status=.running)(h:∀w x y,WgAt P Wg w x y->stepG P false g w=.go g' w #[]) (hs:∃m,gX P Wg Stop m d g'):∃m,gX P Wg Stop m d g:=by
 obtain⟨m,hm⟩:=hs;exact⟨m+1,.inr ⟨hr,g',#[],by simp,h,by simpa[deafBehind]using hm⟩⟩
theorem Hh:∀(n d:Nat)(g:SG),(∀w,fE P false w n g=fw P false w n g)->iP P false n g=true->(∃q,Y5 P q (jF P false n d g) (cz P false n g))->∃q,Y5 P q d g
 |0,d,g,_,_,hs=>hs
 |n+1,d,g,h,hm,hs=>by
  obtain⟨h1,h2,h3⟩:=Mx hm;obtain⟨m,hm⟩:=Hh n _ (gk P false g) (λw=>(Vv (h w)).2) h3 hs;exact⟨m+1,.inr ⟨h1,_,_,h2,λw=>(Vv (h w)).1,hm⟩⟩
theorem Nc{d:Nat}{g:SG}(h:g.status=.finished)(hd:d=0):∃q,Y5 P q d g:=⟨0,h,hd⟩
theorem ao3{n:Nat}{main:Bool}{g:SG}(h:oz P main (n+1) g=true):g.status=.running/\Ar P main g=#[]/\oz P main n (gk P main g)=true:=by
 simp only[oz,Tg]at h;exact⟨bN.out h.1.1,by simpa using h.1.2,h.2⟩
theorem th{lv main:Bool}{J:View->SG->Prop}(C:Closed lv P main J){V:View}:∀(n:Nat)(g:SG),(∀w,fE P main w n g=fw P main w n g)->oz P main n g=true->J V (cz P main n g)->J V g
 |0,g,_,_,hs=>hs
 |n+1,g,h,hm,hs=>by
  obtain⟨h1,h2,h3⟩:=ao3 hm;refine C.idle h1 (λw=> ?_) (th C n (gk P main g) (λw=>(Vv (h w)).2) h3 hs);rw[(Vv (h w)).1,h2]
theorem Closed.mute{lv main:Bool}{J:View->SG->Prop}(C:Closed lv P main J){V:View}{g g':SG}{m:Mark}(hm:m=.disable\/m=.enable)(hr:g.status=.running)(h:∀w,stepG P main g w=.go g' w #[⟨.mark m,false,true⟩]) (hJ:J {V with deaf:=deafBehind V.deaf #[⟨.mark m,false,true⟩]} g'):J V g:=by
 refine C.step _ _ hr λw hw=> ?_;have hs:=apW (P:=P) (V:=V) (k:=(.pure ():Sem Unit)) (K:=λ_ V'=>V'={V with deaf:=deafBehind V.deaf #[⟨.mark m,false,true⟩]}) (Kp:=λ_ _=>False) hm (cE rfl);obtain⟨es,w',V',k1,k2,k3⟩:=hs.runs hw;rcases k3 with⟨x,k3,rfl⟩|⟨_,_,hx⟩
 ·have e1:Yh () w=Yh x w':=k3;have e2:es=#[⟨.mark m,false,true⟩]:=k2.symm;cases e1;subst e2;refine⟨g',w,_,_,h w,?_,hJ⟩;rwa [tp (by rcases hm with rfl|rfl<;>simp)]at k1
 ·exact hx.elim
def ready (g:SG):Option Tu:=match g with
 |{frame:={fn:=_,tmps,todo:=.inRegion ops (i::_)::_,defers:=_,mode:=.run,kind,roundOf:=none},callers:=_,status:=.running,dying:=none,offers:=none}=>
  match ops[i]?with
  |some o=>if Th o (yielded ops tmps)&& !(kind== .early)then some o else none
  |none=>none
 |_=>none
def fin (g:SG)(v:SO):SG:={g with frame:=g.frame.finish v}
theorem ready.out{g:SG}{o:Tu}(h:ready g=some o):∃(b:Uc)(a:Act)(ops:Array Tu)(i:Nat)(rest:List Nat)(k:List WS)(cs:List Uc),g=G (b.at a (.inRegion ops (i::rest)::k)) cs/\ops[i]?=some o/\Th o (yielded ops a.tmps)=true/\b.kind≠ .early/\a.eval=g.frame.eval/\
  (∀v,G (b.at (a.put o.dst v) (.inRegion ops rest::k)) cs=fin g v)/\b.fn=g.frame.fn/\g.status=.running:=by
 unfold ready at h;split at h
 ·rename_i fn tmps ops i rest k defers kind cs;split at h
  ·rename_i o' ho;split at h
   ·rename_i hw;cases h;simp only[Tg,TZ,beq_eq_false_iff_ne,ne_eq]at hw;refine⟨{(default:Uc)with fn,kind},⟨tmps,defers⟩,ops,i,rest,k,cs,rfl,ho,hw.1,hw.2,?_,λv=> ?_,rfl,rfl⟩
    ·funext x;cases x<;>rfl
    ·unfold fin;have:=Frame.finish_at {(default:Uc)with fn,kind} ⟨tmps,defers⟩ ops i rest k v;rw[ho]at this;simp only[Frame.at,Option.bind_some]at this⊢;rw[this];rfl
   ·cases h
  ·cases h
 ·cases h
def ce (g:SG):Option (TS×Array SO):=match ready g with
 |some {op:=.call {callee:=.value (.func f),args, .. }, .. }=>some (f,args.map g.frame.eval)
 |_=>none
theorem ce.out{g:SG}{f:TS}{vs:Array SO}(h:ce g=some (f,vs)):∃o aE lR,ready g=some o/\o.op=.call {callee:=.value (.func f),args:=aE,argTypes:=lR}/\aE.map g.frame.eval=vs:=by
 unfold ce at h;split at h
 ·rename_i f' aE lR dst ty pos af gd ho;cases h;exact⟨_,_,_,ho,rfl,rfl⟩
 ·cases h
structure Ext (P:SI)(f:TS)(e:Array SO->Sem SO):Prop where
 fn : ∃ fn, P.funcs[f]? = some fn /\ (fn.name == "runtime.NumGoroutine") = false /\ fn.body.isNone = true /\ Extern.findNext fn = none /\ Extern.find fn = some e
variable {main:Bool}{g:SG}{f:TS}{w:To}
theorem acE{v d:Int}{k:TY}{ad:U5}(h:ce g=some (f,#[.pointer (some ad),.int k d])) (he:Ext P f (XQ (atW .add) k true)) (hc:w.cell? ad=some (.int k v)) (hz:w.frozen? ad=false):
  stepG P main g w=.go (fin g (.int k (k.wrap (v+d)))) (w.setCell ad (.int k (k.wrap (v+d)))) #[⟨.cell ad,false,true⟩,⟨.cell ad,true,true⟩]:=by
 obtain⟨o,aE,lR,h1,h2,h3⟩:=ce.out h;obtain⟨b,a,ops,i,rest,kk,cs,e,q1,q2,q3,q4,q5,q6,_⟩:=ready.out h1;obtain⟨fn,f1,f2,f3,f4,f5⟩:=he.fn;rw[<- q4]at h3;rw[<- q5];refine VH (congrArg (λx=>stepG P main x w) e) ?_;exact ZB q1 q2 q3 h2 f1 f2 f3 f4 f5 (by rw[h3];exact run_add_entry hc hz) (by rw[h3,events_add_entry hc hz];rfl) (sync_rw ad)
theorem Nv{v:Int}{k:TY}{ad:U5}(h:ce g=some (f,#[.pointer (some ad)])) (he:Ext P f (X2 (.int k))) (hc:w.cell? ad=some (.int k v)):
  stepG P main g w=.go (fin g (.int k v)) w #[⟨.cell ad,false,true⟩]:=by
 obtain⟨o,aE,lR,h1,h2,h3⟩:=ce.out h;obtain⟨b,a,ops,i,rest,kk,cs,e,q1,q2,q3,q4,q5,q6,_⟩:=ready.out h1;obtain⟨fn,f1,f2,f3,f4,f5⟩:=he.fn;rw[<- q4]at h3;rw[<- q5];refine VH (congrArg (λx=>stepG P main x w) e) ?_;obtain⟨x,rfl⟩:∃x,aE=#[x]:=by
  have:aE.size=1:=by have:=congrArg aa_ h3;simpa using this
  exact Array.size_eq_one_iff.1 this
 exact stepG_load_atomic q1 q2 q3 h2 f1 f2 f3 f4 k f5 (by simpa using h3) hc
theorem aqw{v:Int}{u:SO}{k:TY}{ad:U5}(h:ce g=some (f,#[.pointer (some ad),.int k v])) (he:Ext P f XR) (hc:w.cell? ad=some u) (hz:w.frozen? ad=false):
  stepG P main g w=.go (fin g (.tuple #[])) (w.setCell ad (.int k v)) #[⟨.cell ad,true,true⟩]:=by
 obtain⟨o,aE,lR,h1,h2,h3⟩:=ce.out h;obtain⟨b,a,ops,i,rest,kk,cs,e,q1,q2,q3,q4,q5,q6,_⟩:=ready.out h1;obtain⟨fn,f1,f2,f3,f4,f5⟩:=he.fn;rw[<- q4]at h3;rw[<- q5];refine VH (congrArg (λx=>stepG P main x w) e) ?_;obtain⟨x,y,rfl⟩:∃x y,aE=#[x,y]:=by
  have:aE.toList.length=2:=by have:=congrArg aa_ h3;simpa using this
  obtain⟨l⟩:=aE
  match l,this with
  |[x,y],_=>exact⟨x,y,rfl⟩
 have vH:a.eval x=.pointer (some ad)/\a.eval y=.int k v:=by simpa using h3
 exact stepG_store_atomic q1 q2 q3 h2 f1 f2 f3 f4 f5 vH.1 vH.2 hc hz
theorem aqp{v n:Int}{k:TY}{ad:U5}(h:ce g=some (f,#[.pointer (some ad),.int k v,.int k n])) (he:Ext P f (WT (.int k))) (hc:w.cell? ad=some (.int k v)) (hz:w.frozen? ad=false):
  stepG P main g w=.go (fin g (.bool true)) (w.setCell ad (.int k n)) #[⟨.cell ad,false,true⟩,⟨.cell ad,true,true⟩]:=by
 obtain⟨o,aE,lR,h1,h2,h3⟩:=ce.out h;obtain⟨b,a,ops,i,rest,kk,cs,e,q1,q2,q3,q4,q5,q6,_⟩:=ready.out h1;obtain⟨fn,f1,f2,f3,f4,f5⟩:=he.fn;rw[<- q4]at h3;rw[<- q5];refine VH (congrArg (λx=>stepG P main x w) e) ?_;exact ZB q1 q2 q3 h2 f1 f2 f3 f4 f5 (by rw[h3,ZY];exact run_cas_hit_entry hc hz) (by rw[h3,ZY,events_cas_hit_entry hc hz];rfl) (sync_rw ad)
theorem aqq{v old n:Int}{k:TY}{ad:U5}(h:ce g=some (f,#[.pointer (some ad),.int k old,.int k n])) (he:Ext P f (WT (.int k))) (hc:w.cell? ad=some (.int k v)) (hz:w.frozen? ad=false) (aI:¬v=old):
  stepG P main g w=.go (fin g (.bool false)) w #[⟨.cell ad,false,true⟩]:=by
 obtain⟨o,aE,lR,h1,h2,h3⟩:=ce.out h;obtain⟨b,a,ops,i,rest,kk,cs,e,q1,q2,q3,q4,q5,q6,_⟩:=ready.out h1;obtain⟨fn,f1,f2,f3,f4,f5⟩:=he.fn;rw[<- q4]at h3;rw[<- q5];refine VH (congrArg (λx=>stepG P main x w) e) ?_;exact ZB q1 q2 q3 h2 f1 f2 f3 f4 f5 (by rw[h3,ZY];exact run_cas_miss_entry hc hz aI) (by rw[h3,ZY,events_cas_miss_entry hc hz aI];rfl) (sync_r ad)
theorem aqu{n:Int}{x y:SO}{ad:U5}(h:ce g=some (f,#[.pointer (some ad),x,y])) (he:Ext P f XP) (hc:w.cell? ad=some (.int .u32 n)) (hz:w.frozen? ad=false):
  stepG P main g w=.go (fin g (.tuple #[])) (w.setCell ad (.int .u32 (ah_.wrap (n+1)))) (semEvents ad):=by
 obtain⟨o,aE,lR,h1,h2,h3⟩:=ce.out h;obtain⟨b,a,ops,i,rest,kk,cs,e,q1,q2,q3,q4,q5,q6,_⟩:=ready.out h1;obtain⟨fn,f1,f2,f3,f4,f5⟩:=he.fn;rw[<- q4]at h3;rw[<- q5];refine VH (congrArg (λx=>stepG P main x w) e) ?_;exact stepG_semrelease q1 q2 q3 h2 f1 f2 f3 f4 f5 (by rw[h3];rfl) hc hz
theorem aqt{n:Int}{x:SO}{ad:U5}(h:ce g=some (f,#[.pointer (some ad),x])) (he:Ext P f WB) (hc:w.cell? ad=some (.int .u32 n)) (hn:n≠0) (hz:w.frozen? ad=false):
  stepG P main g w=.go (fin g (.tuple #[])) (w.setCell ad (.int .u32 (n-1))) (semEvents ad):=by
 obtain⟨o,aE,lR,h1,h2,h3⟩:=ce.out h;obtain⟨b,a,ops,i,rest,kk,cs,e,q1,q2,q3,q4,q5,q6,_⟩:=ready.out h1;obtain⟨fn,f1,f2,f3,f4,f5⟩:=he.fn;rw[<- q4]at h3;rw[<- q5];refine VH (congrArg (λx=>stepG P main x w) e) ?_;exact stepG_semacquire q1 q2 q3 h2 f1 f2 f3 f4 f5 (by rw[h3];rfl) hc hn hz
theorem aqv{x:SO}{ad:U5}(h:ce g=some (f,#[.pointer (some ad),x])) (he:Ext P f WB) (hc:w.cell? ad=some (.int .u32 0)):
  stepG P main g w=.go {g with status:=.blocked} w #[]:=by
 obtain⟨o,aE,lR,h1,h2,h3⟩:=ce.out h;obtain⟨b,a,ops,i,rest,kk,cs,e,q1,q2,q3,q4,q5,q6,_⟩:=ready.out h1;obtain⟨fn,f1,f2,f3,f4,f5⟩:=he.fn;rw[<- q4]at h3;rw[e];exact stepG_semacquire_wait q1 q2 h2 f1 f2 f3 f4 f5 (by rw[h3];rfl) hc
theorem Hx{ad:U5}(mk:U5->Mark)(hm:∀ad g,mk ad≠ .extern g)(h:ce g=some (f,#[.pointer (some ad)])) (he:Ext P f (VG mk)):
  stepG P main g w=.go (fin g (.tuple #[])) w #[⟨.mark (mk ad),false,true⟩]:=by
 obtain⟨o,aE,lR,h1,h2,h3⟩:=ce.out h;obtain⟨b,a,ops,i,rest,kk,cs,e,q1,q2,q3,q4,q5,q6,_⟩:=ready.out h1;obtain⟨fn,f1,f2,f3,f4,f5⟩:=he.fn;rw[<- q4]at h3;rw[<- q5];refine VH (congrArg (λx=>stepG P main x w) e) ?_;exact stepG_markAt mk hm q1 q2 q3 h2 f1 f2 f3 f4 f5 (by rw[h3];rfl)
def oO (g:SG):Option (TypeId×TypeId×SO):=match ready g with
 |some {op:=.convert s d x, .. }=>some (s,d,g.frame.eval x)
 |_=>none
theorem Hy{src dst t:TypeId}{ad:U5}{v:SO}(h:oO g=some (src,dst,.pointer (some ad)))(hs:P.underlying src=some (.pointer t))(hd:P.underlying dst=some .unsafePointer)(aW:(P.info? t).map (λi=>decide (i.size=0))=some false)(hc:w.cell? ad=some v):
  stepG P main g w=.go (fin g (.pointer (some ad))) w #[]:=by
 obtain⟨o,x,h1,h2,h3⟩:∃o x,ready g=some o/\o.op=.convert src dst x/\g.frame.eval x=.pointer (some ad):=by
  unfold oO at h;split at h
  ·rename_i s d x _ _ _ _ ho;simp only[Tj,U2]at h;obtain⟨rfl,rfl,h⟩:=h;exact⟨_,x,ho,rfl,h⟩
  ·cases h
 obtain⟨b,a,ops,i,rest,kk,cs,e,q1,q2,q3,q4,q5,q6,_⟩:=ready.out h1;rw[<- q4]at h3;rw[<- q5];refine VH (congrArg (λx=>stepG P main x w) e) ?_;have hr:(execOp a.eval o).run P w=.ok (.value (.pointer (some ad))) w:=by
  unfold execOp;simp only[h2,h3];simp[run_convert_to_unsafe hs hd aW hc]
 have cg:(execOp a.eval o).events P w #[]=#[]:=by
  unfold execOp;simp only[h2,h3];simp[events_convert_to_unsafe hs hd aW hc]
 rw[atN q1 q2 q3 hr];unfold listed;rw[cg,Z8]
end
open Go.Proofs
section
variable {P:SI}
theorem Nr{Stop:Nat->SG->Prop}{d:Nat}{g g':SG}{es:Array Ur}(hr:g.status=.running)(hm:∀e∈es,WC e=true)(h:∀w,stepG P false g w=.go g' w es)(hs:∃m,cO P Stop m (deafBehind d es) g'):∃m,cO P Stop m d g:=by
 obtain⟨m,hs⟩:=hs;exact⟨m+1,.inr ⟨hr,g',es,hm,h,hs⟩⟩
theorem Hw{main:Bool}{g:SG}{f:TS}{w:To}{m:Mark}(hm:∀g,m≠ .extern g)(h:ce g=some (f,#[])) (he:Ext P f (λ_=>do ac_ m;pure W5)):stepG P main g w=.go (fin g (.tuple #[])) w #[⟨.mark m,false,true⟩]:=by
 obtain⟨o,xs,lR,h1,h2,h3⟩:=ce.out h;obtain⟨b,a,ops,i,rest,kk,cs,e,q1,q2,q3,q4,q5,q6,_⟩:=ready.out h1;obtain⟨fn,f1,f2,f3,f4,f5⟩:=he.fn;rw[<- q4]at h3;rw[<- q5];refine VH (congrArg (λx=>stepG P main x w) e) ?_;exact stepG_mark0 m hm q1 q2 q3 h2 f1 f2 f3 f4 f5
theorem acF{main:Bool}{g:SG}{f:TS}{w:To}{v:SO}{vs:Array SO}(h:ce g=some (f,vs))(he:Ext P f (λ_=>pure v)):stepG P main g w=.go (fin g v) w #[]:=by
 obtain⟨o,xs,lR,h1,h2,h3⟩:=ce.out h;obtain⟨b,a,ops,i,rest,kk,cs,e,q1,q2,q3,q4,q5,q6,_⟩:=ready.out h1;obtain⟨fn,f1,f2,f3,f4,f5⟩:=he.fn;rw[<- q5];refine VH (congrArg (λx=>stepG P main x w) e) ?_;exact stepG_entry_pure v q1 q2 q3 h2 f1 f2 f3 f4 f5
theorem WgAt.st{Wg:Nat}{w:To}{st sm:Int}(h:WgAt P Wg w st sm):w.cell? ⟨Wg,0,none⟩=some (.int .u64 st)/\w.cell? ⟨Wg,1,none⟩=some (.int .u32 sm)/\w.frozen? ⟨Wg,0,none⟩=false/\w.frozen? ⟨Wg,1,none⟩=false:=by
 unfold WgAt wgBlock at h;refine⟨?_,?_,?_,?_⟩<;>simp[UA,ZN,h]
theorem My{m:Mark}(hm:m=.disable\/m=.enable):∀e∈(#[⟨.mark m,false,true⟩]:Array Ur),WC e=true:=by
 intro e he;simp only[TJ,SK,SZ,or_false]at he;subst he;rcases hm with rfl|rfl<;>rfl
end
set_option maxRecDepth 100000
theorem agM:Ext SA 110 (VG .releaseMerge):=⟨⟨Tryz.f110,by kernel_rfl,by kernel_rfl,by kernel_rfl,by kernel_rfl,by kernel_rfl⟩⟩
theorem I4:Ext SA 111 (λ_=>do ac_ .disable;pure W5):=⟨⟨Tryz.f111,by kernel_rfl,by kernel_rfl,by kernel_rfl,by kernel_rfl,by kernel_rfl⟩⟩
theorem agN:Ext SA 112 (λ_=>do ac_ .enable;pure W5):=⟨⟨Tryz.f112,by kernel_rfl,by kernel_rfl,by kernel_rfl,by kernel_rfl,by kernel_rfl⟩⟩
theorem PI:Ext SA 113 (λ_=>pure (.bool false)):=⟨⟨Tryz.f113,by kernel_rfl,by kernel_rfl,by kernel_rfl,by kernel_rfl,by kernel_rfl⟩⟩
theorem agO:Ext SA 118 (VG .read):=⟨⟨Tryz.f118,by kernel_rfl,by kernel_rfl,by kernel_rfl,by kernel_rfl,by kernel_rfl⟩⟩
theorem agP:Ext SA 122 XP:=⟨⟨Tryz.f122,by kernel_rfl,by kernel_rfl,by kernel_rfl,by kernel_rfl,by kernel_rfl⟩⟩
theorem agQ:Ext SA 123 (VG .acquire):=⟨⟨Tryz.f123,by kernel_rfl,by kernel_rfl,by kernel_rfl,by kernel_rfl,by kernel_rfl⟩⟩
theorem agR:Ext SA 126 (VG .write):=⟨⟨Tryz.f126,by kernel_rfl,by kernel_rfl,by kernel_rfl,by kernel_rfl,by kernel_rfl⟩⟩
theorem PJ:Ext SA 127 WB:=⟨⟨Tryz.f127,by kernel_rfl,by kernel_rfl,by kernel_rfl,by kernel_rfl,by kernel_rfl⟩⟩
theorem PK:Ext SA 134 (XQ (atW .add) .u64 true):=⟨⟨Tryz.f134,by kernel_rfl,by kernel_rfl,by kernel_rfl,by kernel_rfl,by kernel_rfl⟩⟩
theorem I5:Ext SA 135 (X2 (.int .u64)):=⟨⟨Tryz.f135,by kernel_rfl,by kernel_rfl,by kernel_rfl,by kernel_rfl,by kernel_rfl⟩⟩
theorem agS:Ext SA 136 XR:=⟨⟨Tryz.f136,by kernel_rfl,by kernel_rfl,by kernel_rfl,by kernel_rfl,by kernel_rfl⟩⟩
theorem PL:Ext SA 137 (WT (.int .u64)):=⟨⟨Tryz.f137,by kernel_rfl,by kernel_rfl,by kernel_rfl,by kernel_rfl,by kernel_rfl⟩⟩
theorem adl:SA.underlying 158=some (.pointer 147):=by kernel_rfl
theorem HE:SA.underlying 160=some .unsafePointer:=by kernel_rfl
theorem i182:(SA.info? 147).map (λi=>decide (i.size=0))=some false:=by kernel_rfl
noncomputable def apk:Uc:={(default:Uc)with fn:=184,defers:=[],mode:=.panicking [goexitEntry]}
noncomputable def apg (fn:TS)(tmps:Array SO)(todo:List WS):Uc:={fn,tmps,todo,defers:=[],mode:=.returning,kind:=.deferred,roundOf:=none}
noncomputable def pW (Wg o:Nat):SO:=.pointer (some ⟨Wg,o,none⟩)
section
variable (Wg:Nat)(tmps:Array SO)(todo:List WS)
noncomputable def d0:SG:=G (Frame.enter SA 98 #[pW Wg 0] .deferred) [apg 97 tmps todo,apk]
noncomputable def d14:SG:=cz SA false 14 (d0 Wg tmps todo)
noncomputable def d15:SG:=fin (d14 Wg tmps todo) (pW Wg 0)
noncomputable def d16:SG:=fin (d15 Wg tmps todo) (.tuple #[])
noncomputable def d19:SG:=cz SA false 3 (d16 Wg tmps todo)
noncomputable def d20:SG:=fin (d19 Wg tmps todo) (.tuple #[])
noncomputable def d31:SG:=cz SA false 11 (d20 Wg tmps todo)
noncomputable def d32:SG:=fin (d31 Wg tmps todo) (.bool false)
noncomputable def d54:SG:=cz SA false 22 (d32 Wg tmps todo)
noncomputable def d55 (s:Int):SG:=fin (d54 Wg tmps todo) (.int .u64 s)
noncomputable def d158:SG:=cz SA false 103 (d55 Wg tmps todo 1)
noncomputable def d159:SG:=fin (d158 Wg tmps todo) (.int .u64 1)
noncomputable def d179:SG:=cz SA false 20 (d159 Wg tmps todo)
noncomputable def d180:SG:=fin (d179 Wg tmps todo) (.tuple #[])
noncomputable def BM:SG:=cz SA false 27 (d180 Wg tmps todo)
noncomputable def zh:SG:=fin (BM Wg tmps todo) (.tuple #[])
set_option maxRecDepth 100000
variable (w:To)
theorem x0:(fE SA false w 14 (d0 Wg tmps todo),oz SA false 14 (d0 Wg tmps todo),bN (d14 Wg tmps todo),bN (d15 Wg tmps todo))=(fw SA false w 14 (d0 Wg tmps todo),true,true,true):=by kernel_rfl
theorem x14:oO (d14 Wg tmps todo)=some (158,160,pW Wg 0):=by kernel_rfl
theorem x15:ce (d15 Wg tmps todo)=some (110,#[pW Wg 0]):=by kernel_rfl
theorem HS:(fE SA false w 3 (d16 Wg tmps todo),iP SA false 3 (d16 Wg tmps todo),bN (d19 Wg tmps todo),jF SA false 3 0 (d16 Wg tmps todo))=(fw SA false w 3 (d16 Wg tmps todo),true,true,0):=by kernel_rfl
theorem x19:ce (d19 Wg tmps todo)=some (111,#[]):=by kernel_rfl
theorem HU:(fE SA false w 11 (d20 Wg tmps todo),iP SA false 11 (d20 Wg tmps todo),bN (d31 Wg tmps todo),jF SA false 11 1 (d20 Wg tmps todo))=(fw SA false w 11 (d20 Wg tmps todo),true,true,1):=by kernel_rfl
theorem x31:ce (d31 Wg tmps todo)=some (113,#[]):=by kernel_rfl
theorem HW:(fE SA false w 22 (d32 Wg tmps todo),iP SA false 22 (d32 Wg tmps todo),bN (d54 Wg tmps todo),jF SA false 22 1 (d32 Wg tmps todo))=(fw SA false w 22 (d32 Wg tmps todo),true,true,1):=by kernel_rfl
theorem x54:ce (d54 Wg tmps todo)=some (134,#[pW Wg 0,.int .u64 18446744069414584320]):=by kernel_rfl
theorem q30:(fE SA false w 94 (d55 Wg tmps todo (3* 4294967296)),iP SA false 94 (d55 Wg tmps todo (3* 4294967296)),(cz SA false 94 (d55 Wg tmps todo (3* 4294967296))).status,jF SA false 94 1 (d55 Wg tmps todo (3* 4294967296)))=(fw SA false w 94 (d55 Wg tmps todo (3* 4294967296)),true,.finished,0):=by kernel_rfl
theorem q31:(fE SA false w 94 (d55 Wg tmps todo (3* 4294967296+1)),iP SA false 94 (d55 Wg tmps todo (3* 4294967296+1)),(cz SA false 94 (d55 Wg tmps todo (3* 4294967296+1))).status,jF SA false 94 1 (d55 Wg tmps todo (3* 4294967296+1)))=(fw SA false w 94 (d55 Wg tmps todo (3* 4294967296+1)),true,.finished,0):=by kernel_rfl
theorem q20:(fE SA false w 94 (d55 Wg tmps todo (2* 4294967296)),iP SA false 94 (d55 Wg tmps todo (2* 4294967296)),(cz SA false 94 (d55 Wg tmps todo (2* 4294967296))).status,jF SA false 94 1 (d55 Wg tmps todo (2* 4294967296)))=(fw SA false w 94 (d55 Wg tmps todo (2* 4294967296)),true,.finished,0):=by kernel_rfl
theorem q21:(fE SA false w 94 (d55 Wg tmps todo (2* 4294967296+1)),iP SA false 94 (d55 Wg tmps todo (2* 4294967296+1)),(cz SA false 94 (d55 Wg tmps todo (2* 4294967296+1))).status,jF SA false 94 1 (d55 Wg tmps todo (2* 4294967296+1)))=(fw SA false w 94 (d55 Wg tmps todo (2* 4294967296+1)),true,.finished,0):=by kernel_rfl
theorem q10:(fE SA false w 94 (d55 Wg tmps todo (1* 4294967296)),iP SA false 94 (d55 Wg tmps todo (1* 4294967296)),(cz SA false 94 (d55 Wg tmps todo (1* 4294967296))).status,jF SA false 94 1 (d55 Wg tmps todo (1* 4294967296)))=(fw SA false w 94 (d55 Wg tmps todo (1* 4294967296)),true,.finished,0):=by kernel_rfl
theorem q11:(fE SA false w 94 (d55 Wg tmps todo (1* 4294967296+1)),iP SA false 94 (d55 Wg tmps todo (1* 4294967296+1)),(cz SA false 94 (d55 Wg tmps todo (1* 4294967296+1))).status,jF SA false 94 1 (d55 Wg tmps todo (1* 4294967296+1)))=(fw SA false w 94 (d55 Wg tmps todo (1* 4294967296+1)),true,.finished,0):=by kernel_rfl
theorem q00:(fE SA false w 94 (d55 Wg tmps todo 0),iP SA false 94 (d55 Wg tmps todo 0),(cz SA false 94 (d55 Wg tmps todo 0)).status,jF SA false 94 1 (d55 Wg tmps todo 0))=(fw SA false w 94 (d55 Wg tmps todo 0),true,.finished,0):=by kernel_rfl
theorem HX:(fE SA false w 103 (d55 Wg tmps todo 1),iP SA false 103 (d55 Wg tmps todo 1),bN (d158 Wg tmps todo),jF SA false 103 1 (d55 Wg tmps todo 1))=(fw SA false w 103 (d55 Wg tmps todo 1),true,true,1):=by kernel_rfl
theorem ar8:ce (d158 Wg tmps todo)=some (135,#[pW Wg 0]):=by kernel_rfl
theorem HR:(fE SA false w 20 (d159 Wg tmps todo),iP SA false 20 (d159 Wg tmps todo),bN (d179 Wg tmps todo),jF SA false 20 1 (d159 Wg tmps todo))=(fw SA false w 20 (d159 Wg tmps todo),true,true,1):=by kernel_rfl
theorem ar9:ce (d179 Wg tmps todo)=some (136,#[pW Wg 0,.int .u64 0]):=by kernel_rfl
theorem HT:(fE SA false w 27 (d180 Wg tmps todo),iP SA false 27 (d180 Wg tmps todo),bN (BM Wg tmps todo),jF SA false 27 1 (d180 Wg tmps todo))=(fw SA false w 27 (d180 Wg tmps todo),true,true,1):=by kernel_rfl
theorem asa:ce (BM Wg tmps todo)=some (122,#[pW Wg 1,.bool false,.int .i64 0]):=by kernel_rfl
theorem HV:(fE SA false w 24 (zh Wg tmps todo),iP SA false 24 (zh Wg tmps todo),(cz SA false 24 (zh Wg tmps todo)).status,jF SA false 24 1 (zh Wg tmps todo))=(fw SA false w 24 (zh Wg tmps todo),true,.finished,0):=by kernel_rfl
theorem xm:mayWake SA (BM Wg tmps todo)=true:=by kernel_rfl
end
section
variable (Wg:Nat)(tmps:Array SO)(todo:List WS)
theorem dS{α β γ δ:Type}{a a':α}{b b':β}{c c':γ}{d d':δ}(h:(a,b,c,d)=(a',b',c',d')):a=a'/\b=b'/\c=c'/\d=d':=by
 simpa[U2]using h
theorem xd{s:Int}(h:∀w,(fE SA false w 94 (d55 Wg tmps todo s),iP SA false 94 (d55 Wg tmps todo s),(cz SA false 94 (d55 Wg tmps todo s)).status,jF SA false 94 1 (d55 Wg tmps todo s))=(fw SA false w 94 (d55 Wg tmps todo s),true,.finished,0)):∃q,Y5 SA q 1 (d55 Wg tmps todo s):=
 Hh 94 1 _ (λw=>(dS (h w)).1) (dS (h default)).2.1 (Nc (dS (h default)).2.2.1 (dS (h default)).2.2.2)
theorem agF:D8 SA Wg 1 (BM Wg tmps todo):=by
 refine⟨rfl,bN.out (dS (HT Wg tmps todo default)).2.2.1,xm Wg tmps todo,zh Wg tmps todo,λw hw=> ?_,?_⟩
 ·exact aqu (n:=0) (asa Wg tmps todo) agP hw.st.2.1 hw.st.2.2.2
 ·exact Hh 24 1 _ (λw=>(dS (HV Wg tmps todo w)).1) (dS (HV Wg tmps todo default)).2.1 (Nc (dS (HV Wg tmps todo default)).2.2.1 (dS (HV Wg tmps todo default)).2.2.2)
theorem agG:D9 SA Wg 1 (d179 Wg tmps todo):=by
 refine⟨rfl,bN.out (dS (HR Wg tmps todo default)).2.2.1,d180 Wg tmps todo,λw hw=> ?_,?_⟩
 ·exact aqw (ar9 Wg tmps todo) agS hw.st.1 hw.st.2.2.1
 ·refine wC 27 1 _ (λw=>(dS (HT Wg tmps todo w)).1) (dS (HT Wg tmps todo default)).2.1 ?_;rw[(dS (HT Wg tmps todo default)).2.2.2];exact⟨0,agF Wg tmps todo⟩
theorem agE:D7 SA Wg 1 (d158 Wg tmps todo):=by
 refine⟨rfl,bN.out (dS (HX Wg tmps todo default)).2.2.1,d159 Wg tmps todo,λw hw=> ?_,?_⟩
 ·exact Nv (ar8 Wg tmps todo) I5 hw.st.1
 ·refine wC 20 1 _ (λw=>(dS (HR Wg tmps todo w)).1) (dS (HR Wg tmps todo default)).2.1 ?_;rw[(dS (HR Wg tmps todo default)).2.2.2];exact⟨0,agG Wg tmps todo⟩
theorem agC:A7 SA Wg 1 (d54 Wg tmps todo):=by
 refine⟨rfl,bN.out (dS (HW Wg tmps todo default)).2.2.1,λv wt uG hv=>⟨d55 Wg tmps todo ((v:Int)* KK+wt),λw hw=> ?_,λh=> ?_,λh=> ?_⟩⟩
 ·have e:Tx.wrap ((((v+1:Nat):Int)* KK+wt)+18446744069414584320)=(v:Int)* KK+wt:=by
   have h1:Tx.bits=64:=rfl;have h2:Tx.signed=false:=rfl;unfold Xa KK;rw[h1,h2];simp;omega
  have:=acE (P:=SA) (main:=false) (w:=w) (x54 Wg tmps todo) PK hw.st.1 hw.st.2.2.1;rw[e]at this;exact this
 ·obtain⟨rfl,rfl⟩:=h;refine wC 103 1 _ (λw=>(dS (HX Wg tmps todo w)).1) (dS (HX Wg tmps todo default)).2.1 ?_;have e:=(dS (HX Wg tmps todo default)).2.2.2;exact⟨0,by rw[show (((0:Nat):Int)* KK+((1:Nat):Int))=1 from rfl,e];exact agE Wg tmps todo⟩
 ·have hv4:v=0\/v=1\/v=2\/v=3:=by omega
  have gF:wt=0\/wt=1:=by omega
  rcases hv4 with rfl|rfl|rfl|rfl<;>rcases gF with rfl|rfl
  ·exact xd Wg tmps todo (q00 Wg tmps todo)
  ·exact absurd ⟨rfl,rfl⟩ h
  ·exact xd Wg tmps todo (q10 Wg tmps todo)
  ·exact xd Wg tmps todo (q11 Wg tmps todo)
  ·exact xd Wg tmps todo (q20 Wg tmps todo)
  ·exact xd Wg tmps todo (q21 Wg tmps todo)
  ·exact xd Wg tmps todo (q30 Wg tmps todo)
  ·exact xd Wg tmps todo (q31 Wg tmps todo)
theorem agD:Ed SA Wg (d15 Wg tmps todo):=by
 refine⟨bN.out (dS (x0 Wg tmps todo default)).2.2.2,d16 Wg tmps todo,λw=>Hx .releaseMerge (λ_ _ h=>by cases h) (x15 Wg tmps todo) agM,?_⟩;refine wC 3 0 _ (λw=>(dS (HS Wg tmps todo w)).1) (dS (HS Wg tmps todo default)).2.1 ?_;rw[(dS (HS Wg tmps todo default)).2.2.2];refine Nr (g:=d19 Wg tmps todo) (g':=d20 Wg tmps todo) (bN.out (dS (HS Wg tmps todo default)).2.2.1) (My (.inl rfl)) (λw=>Hw (λ_ h=>by cases h) (x19 Wg tmps todo) I4) ?_;refine wC 11 1 (d20 Wg tmps todo) (λw=>(dS (HU Wg tmps todo w)).1) (dS (HU Wg tmps todo default)).2.1 ?_;rw[(dS (HU Wg tmps todo default)).2.2.2];refine Nr (es:=#[]) (g:=d31 Wg tmps todo) (g':=d32 Wg tmps todo) (bN.out (dS (HU Wg tmps todo default)).2.2.1) (by simp) (λw=>acF (x31 Wg tmps todo) PI) ?_;refine wC 22 1 (d32 Wg tmps todo) (λw=>(dS (HW Wg tmps todo w)).1) (dS (HW Wg tmps todo default)).2.1 ?_;rw[(dS (HW Wg tmps todo default)).2.2.2];exact⟨0,agC Wg tmps todo⟩
theorem agH{J:View->SG->Prop}(C:yJ SA false J){V:View}{c:Nat}(hr:V.role=.work c Wg [])(hd:V.deaf=0):J V (d0 Wg tmps todo):=by
 have C':Closed false SA false J:={C with more:=λh=>by cases h};have hx:=dS (x0 Wg tmps todo default);refine th C' 14 _ (λw=>(dS (x0 Wg tmps todo w)).1) hx.2.1 ?_;refine C.slip V _ (d15 Wg tmps todo) c Wg hr (bN.out hx.2.2.1) (λw st hw hW=> ?_) (C.done V _ c Wg hr hd (agD Wg tmps todo));exact Hy (x14 Wg tmps todo) adl HE i182 hW.st.1
end
section
variable (Wg:Nat)(cs:List Uc)(main:Bool)
noncomputable def a0:SG:=G (Frame.enter SA 96 #[pW Wg 0,.int .i64 1] .normal) cs
noncomputable def Em:SG:=cz SA main 12 (a0 Wg cs)
noncomputable def Br:SG:=fin (Em Wg cs main) (.tuple #[])
noncomputable def En:SG:=cz SA main 11 (Br Wg cs main)
noncomputable def Bt:SG:=fin (En Wg cs main) (.bool false)
noncomputable def Eo:SG:=cz SA main 22 (Bt Wg cs main)
noncomputable def mQ (s:Int):SG:=fin (Eo Wg cs main) (.int .u64 s)
noncomputable def mP (s:Int):SG:=cz SA main 87 (mQ Wg cs main s)
noncomputable def Ij:SG:=cz SA main 52 (mQ Wg cs main 4294967296)
noncomputable def Bp:SG:=fin (Ij Wg cs main) (pW Wg 1)
noncomputable def Bq:SG:=fin (Bp Wg cs main) (.tuple #[])
noncomputable def Bs:SG:=cz SA main 39 (Bq Wg cs main)
set_option maxRecDepth 100000
variable (w:To)
theorem y0:(fE SA main w 12 (a0 Wg cs),oz SA main 12 (a0 Wg cs),bN (Em Wg cs main),ce (Em Wg cs main))=(fw SA main w 12 (a0 Wg cs),true,true,some (111,#[])):=by kernel_rfl
theorem y13:(fE SA main w 11 (Br Wg cs main),oz SA main 11 (Br Wg cs main),bN (En Wg cs main),ce (En Wg cs main))=(fw SA main w 11 (Br Wg cs main),true,true,some (113,#[])):=by kernel_rfl
theorem y25:(fE SA main w 22 (Bt Wg cs main),oz SA main 22 (Bt Wg cs main),bN (Eo Wg cs main),ce (Eo Wg cs main))=(fw SA main w 22 (Bt Wg cs main),true,true,some (134,#[pW Wg 0,.int .u64 4294967296])):=by kernel_rfl
noncomputable def yj (g:SG):ZA×U9×Nat×Xc×List UX×Bool:=(.go (gk SA main g) w #[⟨.mark .enable,false,true⟩],(gk SA main g).frame.mode,(gk SA main g).frame.fn,(gk SA main g).frame.kind,(gk SA main g).frame.defers,bN (gk SA main g))
theorem N0:(fE SA main w 87 (mQ Wg cs main (2* 4294967296)),oz SA main 87 (mQ Wg cs main (2* 4294967296)),bN (mP Wg cs main (2* 4294967296)),yj main w (mP Wg cs main (2* 4294967296)))=(fw SA main w 87 (mQ Wg cs main (2* 4294967296)),true,true,stepG SA main (mP Wg cs main (2* 4294967296)) w,.returning,96,.normal,[],true):=by kernel_rfl
theorem N1:(fE SA main w 87 (mQ Wg cs main (3* 4294967296)),oz SA main 87 (mQ Wg cs main (3* 4294967296)),bN (mP Wg cs main (3* 4294967296)),yj main w (mP Wg cs main (3* 4294967296)))=(fw SA main w 87 (mQ Wg cs main (3* 4294967296)),true,true,stepG SA main (mP Wg cs main (3* 4294967296)) w,.returning,96,.normal,[],true):=by kernel_rfl
theorem N2:(fE SA main w 87 (mQ Wg cs main (4* 4294967296)),oz SA main 87 (mQ Wg cs main (4* 4294967296)),bN (mP Wg cs main (4* 4294967296)),yj main w (mP Wg cs main (4* 4294967296)))=(fw SA main w 87 (mQ Wg cs main (4* 4294967296)),true,true,stepG SA main (mP Wg cs main (4* 4294967296)) w,.returning,96,.normal,[],true):=by kernel_rfl
theorem adA:(fE SA main w 52 (mQ Wg cs main 4294967296),oz SA main 52 (mQ Wg cs main 4294967296),bN (Ij Wg cs main),oO (Ij Wg cs main))=(fw SA main w 52 (mQ Wg cs main 4294967296),true,true,some (165,160,pW Wg 1)):=by kernel_rfl
theorem asb:ce (Bp Wg cs main)=some (118,#[pW Wg 1]):=by kernel_rfl
theorem NZ:(fE SA main w 39 (Bq Wg cs main),oz SA main 39 (Bq Wg cs main),bN (Bs Wg cs main),yj main w (Bs Wg cs main))=(fw SA main w 39 (Bq Wg cs main),true,true,stepG SA main (Bs Wg cs main) w,.returning,96,.normal,[],true):=by kernel_rfl
theorem yr1:bN (Bp Wg cs main)=true:=by kernel_rfl
theorem HF:∃t,SA.underlying 165=some (.pointer t)/\(SA.info? t).map (λi=>decide (i.size=0))=some false:=⟨145,by kernel_rfl,by kernel_rfl⟩
theorem ahI:∃fn,SA.funcs[96]?=some fn/\fn.results=#[]:=⟨Tryz.f96,by kernel_rfl,by kernel_rfl⟩
end
section
variable {P:SI}{V:View}
theorem aqE{w:To}{b o:Nat}{v:SO}{c:Array SO}{el:TypeId}(hw:Sat V w)(ho:V.own b=some (.cells c el (0,0)))(cw:V.ah b o=none)(KA:V.role.chan≠some b):
  dc V w (V.upd b (.cells (c.setIfInBounds o v) el (0,0))) (w.setCell ⟨b,o,none⟩ v) #[⟨.cell ⟨b,o,none⟩,false,true⟩,⟨.cell ⟨b,o,none⟩,true,true⟩]:=by
 refine⟨hw.adp ho cw,rfl,rfl,rfl,by rw[DF];exact SQ _,λb' dD e=>vV _ _ _ (λx=> ?_),λb' dD e=> ?_,λ_ _ _ e=>e,λ_ _ _ e=> .inl e,λev cg=> ?_,by simp[deafBehind];rfl,rfl,λc' x aY e=>by rw[<- e];simp only[View.upd,ite_eq_right_iff];intro x';subst x';exact absurd aY KA,λev cg=> ?_⟩
 ·have x':b=b':=x;subst x';rw[ho]at e;cases e
 ·have:b'≠b:=by intro x;subst x;rw[ho]at e;cases e
  simp only[View.upd,this,if_false];exact e
 ·simp only[TJ,SK,SZ,or_false]at cg;rcases cg with rfl|rfl
  ·exact⟨.inr (.inl (by show V.own b≠none;rw[ho];simp)),.inl rfl⟩
  ·exact⟨.inr ⟨by show V.own b≠none;rw[ho];simp,cw⟩,.inl rfl⟩
 ·simp only[TJ,SK,SZ,or_false]at cg;rcases cg with rfl|rfl<;>(show b<_;rw[DF];exact hw.lt ho)
theorem Closed.said{lv main:Bool}{J:View->SG->Prop}(C:Closed lv P main J){g g':SG}{a:U5}(hr:g.status=.running)(ha:V.own a.block≠none/\V.ah a.block a.off=none)(h:∀w,stepG P main g w=.go g' w #[⟨.mark (.read a),false,true⟩]) (hJ:J V g'):J V g:=by
 refine C.step _ _ hr λw hw=> ?_;have hs:=apZ (P:=P) (V:=V) (k:=(.pure ():Sem Unit)) (K:=λ_ V'=>V'=V) (Kp:=λ_ _=>False) (m:=.read a) (.inl rfl) ha (cE rfl);obtain⟨es,w',V',k1,k2,k3⟩:=hs.runs hw;rcases k3 with⟨x,k3,rfl⟩|⟨_,_,hx⟩
 ·have e1:Yh () w=Yh x w':=k3;have e2:es=#[⟨.mark (.read a),false,true⟩]:=k2.symm;cases e1;subst e2;refine⟨g',w,_,_,h w,?_,hJ⟩;rwa [tp (by simp)]at k1
 ·exact hx.elim
end
section
variable (Wg:Nat)(cs:List Uc)(main:Bool)
set_option maxRecDepth 100000
theorem yG2:gk SA main (mP Wg cs main (2* 4294967296))=G (gk SA main (mP Wg cs main (2* 4294967296))).frame cs:=by kernel_rfl
theorem yG3:gk SA main (mP Wg cs main (3* 4294967296))=G (gk SA main (mP Wg cs main (3* 4294967296))).frame cs:=by kernel_rfl
theorem yG4:gk SA main (mP Wg cs main (4* 4294967296))=G (gk SA main (mP Wg cs main (4* 4294967296))).frame cs:=by kernel_rfl
theorem yG1:gk SA main (Bs Wg cs main)=G (gk SA main (Bs Wg cs main)).frame cs:=by kernel_rfl
end
theorem kA{α β γ δ:Type}{a a':α}{b b':β}{c c':γ}{d d':δ}(h:(a,b,c,d)=(a',b',c',d')):a=a'/\b=b'/\c=c'/\d=d':=by
 simpa[U2]using h
section
variable {lv main:Bool}{J:View->SG->Prop}{V:View}{cs:List Uc}
theorem Es(C:Closed lv SA main J){g:SG}{U:View}(bI:bN g=true)(h:∀w,(Go.Gg.yj main w g)=(stepG SA main g w,.returning,96,.normal,[],true))(hG:gk SA main g=G (gk SA main g).frame cs)
  (hU:U={V with deaf:=deafBehind V.deaf #[⟨.mark .enable,false,true⟩]}) (hJ:∀fr,Leaves SA fr 96 .normal (.ret (.tuple #[])) U->J U (G fr cs)):J V g:=by
 refine C.mute (.inr rfl) (bN.out bI) (λw=> ?_) (g':=gk SA main g) ?_
 ·have:=h w;simp only[Go.Gg.yj,U2]at this;exact this.1.symm
 ·have:=h default;simp only[Go.Gg.yj,U2]at this;obtain⟨_,h1,h2,h3,h4,_⟩:=this;rw[hG,<- hU];refine hJ _ ⟨h2,h4,h3,?_⟩;obtain⟨fn,hf,hr⟩:=ahI;exact⟨fn,hf,h1,results_none hr⟩
theorem aeE{n Wg:Nat}{sm:TypeId}(hn:n<4)(hW:V.own Wg=some (.cells #[.int .u64 ((n:Int)* KK),.int .u32 0] sm (0,0))) (hi:∀o,V.ah Wg o=none) (hc:V.role.chan≠some Wg) (hd:V.deaf=0):
  Body lv SA 96 #[pW Wg 0,.int .i64 1] .normal V (λo V'=>o=.ret (.tuple #[])/\V'=V.upd Wg (.cells #[.int .u64 (((n+1:Nat):Int)* KK),.int .u32 0] sm (0,0))):=by
 intro main J C cs hJ;have hA:=kA (y0 Wg cs main default);show J V (a0 Wg cs);refine th C 12 _ (λw=>(kA (y0 Wg cs main w)).1) hA.2.1 ?_;refine C.mute (g:=Em Wg cs main) (g':=Br Wg cs main) (.inl rfl) (bN.out hA.2.2.1) (λw=>Hw (λ_ h=>by cases h) hA.2.2.2 I4) ?_;have hB:=kA (y13 Wg cs main default);refine th C 11 _ (λw=>(kA (y13 Wg cs main w)).1) hB.2.1 ?_;refine C.idle (g:=En Wg cs main) (g':=Bt Wg cs main) (bN.out hB.2.2.1) (λw=>acF hB.2.2.2 PI) ?_;have hC:=kA (y25 Wg cs main default);refine th C 22 _ (λw=>(kA (y25 Wg cs main w)).1) hC.2.1 ?_;let V1:View:={V with deaf:=deafBehind V.deaf #[⟨.mark .disable,false,true⟩]};let V2:View:=V1.upd Wg (.cells #[.int .u64 (((n+1:Nat):Int)* KK),.int .u32 0] sm (0,0));have zC:{V2 with deaf:=deafBehind V2.deaf #[⟨.mark .enable,false,true⟩]}=V.upd Wg (.cells #[.int .u64 (((n+1:Nat):Int)* KK),.int .u32 0] sm (0,0)):=by
  obtain⟨i,o,d,r⟩:=V;have:d=0:=hd;subst this;rfl
 show J V1 (Eo Wg cs main);refine C.step _ _ (bN.out hC.2.2.1) λw hw=> ?_;have hh:=hw.own Wg _ hW;have dl:w.cell? ⟨Wg,0,none⟩=some (.int .u64 ((n:Int)* KK)):=by simp[UA,hh]
 have Gn:w.frozen? ⟨Wg,0,none⟩=false:=by simp[ZN,hh]
 have hs:=acE (P:=SA) (main:=main) (w:=w) hC.2.2.2 PK dl Gn;have e:Tx.wrap (((n:Int)* KK)+4294967296)=((n+1:Nat):Int)* KK:=by
  have h1:Tx.bits=64:=rfl;have h2:Tx.signed=false:=rfl;unfold Xa KK;rw[h1,h2];simp;omega
 rw[e]at hs;refine⟨mQ Wg cs main (((n+1:Nat):Int)* KK),_,_,V2,hs,?_,?_⟩
 ·exact aqE (V:=V1) hw hW (hi 0) hc
 have R6:n=0\/n=1\/n=2\/n=3:=by omega
 rcases R6 with rfl|rfl|rfl|rfl
 ·have hD:=kA (adA Wg cs main default);refine th C 52 _ (λw=>(kA (adA Wg cs main w)).1) hD.2.1 ?_;obtain⟨t,Lu,xY⟩:=HF;have QT:V2.own Wg=some (.cells #[.int .u64 (((0+1:Nat):Int)* KK),.int .u32 0] sm (0,0)):=by simp[V2,View.upd]
  refine C.step _ _ (bN.out hD.2.2.1) λw hw=>⟨Bp Wg cs main,w,#[],V2,?_,.idle hw,?_⟩
  ·have hh:=hw.own Wg _ QT;exact Hy hD.2.2.2 Lu HE xY (v:=.int .u32 0) (by simp[UA,hh])
  refine C.said (g:=Bp Wg cs main) (g':=Bq Wg cs main) (a:=⟨Wg,1,none⟩) (bN.out (yr1 Wg cs main)) ⟨by show V2.own Wg≠none;rw[QT];simp,hi 1⟩ (λw=>Hx .read (λ_ _ h=>by cases h) (asb Wg cs main) agO) ?_;have hE:=kA (NZ Wg cs main default);refine th C 39 _ (λw=>(kA (NZ Wg cs main w)).1) hE.2.1 ?_;exact Es C hE.2.2.1 (λw=>(kA (NZ Wg cs main w)).2.2.2) (yG1 Wg cs main) zC.symm λfr hl=>hJ _ _ fr ⟨rfl,rfl⟩ hl
 ·have hE:=kA (N0 Wg cs main default);refine th C 87 _ (λw=>(kA (N0 Wg cs main w)).1) hE.2.1 ?_;exact Es C hE.2.2.1 (λw=>(kA (N0 Wg cs main w)).2.2.2) (yG2 Wg cs main) zC.symm λfr hl=>hJ _ _ fr ⟨rfl,rfl⟩ hl
 ·have hE:=kA (N1 Wg cs main default);refine th C 87 _ (λw=>(kA (N1 Wg cs main w)).1) hE.2.1 ?_;exact Es C hE.2.2.1 (λw=>(kA (N1 Wg cs main w)).2.2.2) (yG3 Wg cs main) zC.symm λfr hl=>hJ _ _ fr ⟨rfl,rfl⟩ hl
 ·have hE:=kA (N2 Wg cs main default);refine th C 87 _ (λw=>(kA (N2 Wg cs main w)).1) hE.2.1 ?_;exact Es C hE.2.2.1 (λw=>(kA (N2 Wg cs main w)).2.2.2) (yG4 Wg cs main) zC.symm λfr hl=>hJ _ _ fr ⟨rfl,rfl⟩ hl
end
section
variable {P:SI}{main:Bool}{g:SG}{w:To}
def uR (g:SG):Option (TypeId×SO):=match ready g with
 |some {op:=.load t x, .. }=>some (t,g.frame.eval x)
 |_=>none
theorem aqs{t:TypeId}{d:TypeDesc}{ad:U5}{v:SO}(h:uR g=some (t,.pointer (some ad)))(ht:P.underlying t=some d)(hd:TypeDesc.agg d=false)(hq:(P.funcs[g.frame.fn]?).any (·.norace)=false)(hc:w.cell? ad=some v):
  stepG P main g w=.go (fin g v) w #[⟨.cell ad,false,false⟩]:=by
 obtain⟨o,x,h1,h2,h3⟩:∃o x,ready g=some o/\o.op=.load t x/\g.frame.eval x=.pointer (some ad):=by
  unfold uR at h;split at h
  ·rename_i s x _ _ _ _ ho;simp only[Tj,U2]at h;obtain⟨rfl,h⟩:=h;exact⟨_,x,ho,rfl,h⟩
  ·cases h
 obtain⟨b,a,ops,i,rest,kk,cs,e,q1,q2,q3,q4,q5,q6,_⟩:=ready.out h1;rw[<- q4]at h3;rw[<- q5];refine VH (congrArg (λx=>stepG P main x w) e) ?_;have e1:execOp a.eval o=(do let v<- XA t (.pointer (some ad));pure (.value v)):=by
  unfold execOp;simp only[h2,h3]
 have e2:(isAgg t:Sem Bool).run P w=.ok false w/\∀es,(isAgg t:Sem Bool).events P w es=es:=by
  unfold isAgg Go.underlying;cases d<;>first
   |(exact(Bool.noConfusion hd))
   |(constructor<;>simp[go_sem,ht])
 have hr:(execOp a.eval o).run P w=.ok (.value v) w:=by
  rw[e1];simp[XA,Va,loadVar,e2.1,hc]
 have cg:(execOp a.eval o).events P w #[]=#[⟨.cell ad,false,false⟩]:=by
  rw[e1];simp[XA,Va,loadVar,e2.1,e2.2,hc]
 rw[atN q1 q2 q3 hr];unfold listed;rw[cg,seen_eq (by rw[q6];exact hq) (by intro e he f;simp only[TJ,SK,SZ,or_false]at he;rw[he];simp)]
def xb (g:SG):Option SO:=match ready g with
 |some {op:=.call {callee:=.builtin .close,args, .. }, .. }=>match args.toList with
  |[x]=>some (g.frame.eval x)
  |_=>none
 |_=>none
theorem aqr{c cap s r:Nat}{ED:Array SO}{tm:Bool}(h:xb g=some (.chan (some c)))(hq:(P.funcs[g.frame.fn]?).any (·.norace)=false)(hc:w.heap[c]?=some (.chan cap ED false s r tm)):
  stepG P main g w=.go (fin g (.tuple #[])) {w with heap:=w.heap.setIfInBounds c (.chan cap ED true s r tm)} #[⟨.obj c,false,true⟩,⟨.obj c,true,true⟩]:=by
 obtain⟨o,x,lR,h1,h2,h3⟩:∃o x lR,ready g=some o/\o.op=.call {callee:=.builtin .close,args:=#[x],argTypes:=lR}/\g.frame.eval x=.chan (some c):=by
  unfold xb at h;split at h
  ·rename_i dst xs lR ty pos af gd ho;split at h
   ·rename_i x hx;have:xs=#[x]:=(by apply VB;simpa using hx);subst this;exact⟨_,x,_,ho,rfl,by simpa using h⟩
   ·cases h
  ·cases h
 obtain⟨b,a,ops,i,rest,kk,cs,e,q1,q2,q3,q4,q5,q6,_⟩:=ready.out h1;rw[<- q4]at h3;rw[<- q5];refine VH (congrArg (λx=>stepG P main x w) e) ?_;exact stepG_close q1 q2 q3 h2 h3 hc (by rw[q6];exact hq)
end
section
variable (Wg fc c:Nat)
noncomputable def e0:SG:=born SA ⟨.fn (.func 100) #[pW Wg 0,pW fc 0],#[]⟩
noncomputable def e7:SG:=cz SA false 7 (e0 Wg fc)
noncomputable def e8:SG:=fin (e7 Wg fc) (.tuple #[])
noncomputable def e27:SG:=cz SA false 19 (e8 Wg fc)
noncomputable def f76 (h:SG)(v:Int):SG:=cz SA false 48 (fin h (.int .u64 v))
noncomputable def Mt (b:SG):SG:=cz SA false 25 (fin b (.bool false))
noncomputable def f96 (b:SG):SG:=cz SA false 19 (fin b (.bool true))
noncomputable def f97 (b:SG):SG:=fin (f96 b) (pW Wg 1)
noncomputable def f121 (b:SG):SG:=cz SA false 23 (fin (f97 Wg b) (.tuple #[]))
noncomputable def f138 (b:SG):SG:=cz SA false 16 (fin (f121 Wg b) (.tuple #[]))
noncomputable def f150 (b:SG):SG:=cz SA false 11 (fin (f138 Wg b) (.int .u64 0))
noncomputable def f154 (b:SG):SG:=cz SA false 3 (fin (f150 Wg b) (.tuple #[]))
noncomputable def f155 (b:SG):SG:=fin (f154 Wg b) (pW Wg 0)
noncomputable def f168 (b:SG):SG:=cz SA false 12 (fin (f155 Wg b) (.tuple #[]))
noncomputable def f169 (b:SG):SG:=fin (f168 Wg b) (.chan (some c))
noncomputable def f170 (b:SG):SG:=fin (f169 Wg c b) (.tuple #[])
noncomputable def yI (h:SG):SG:=cz SA false 31 (fin h (.int .u64 0))
noncomputable def N3 (h:SG):SG:=cz SA false 3 (fin (yI h) (.tuple #[]))
noncomputable def va (h:SG):SG:=fin (N3 h) (pW Wg 0)
noncomputable def D2 (h:SG):SG:=cz SA false 22 (fin (va Wg h) (.tuple #[]))
noncomputable def vb (h:SG):SG:=fin (D2 Wg h) (.chan (some c))
noncomputable def HZ (h:SG):SG:=fin (vb Wg c h) (.tuple #[])
noncomputable def hd:List Int->SG
 |[]=>e27 Wg fc
 |v::l=>Mt (f76 (hd l) v)
noncomputable def bd (l:List Int)(v:Int):SG:=f76 (hd Wg fc l) v
noncomputable def ff (w:To)(n d:Nat)(g:SG):List ZA×Bool×Bool×Nat:=(fE SA false w n g,iP SA false n g,bN (cz SA false n g),jF SA false n d g)
noncomputable def fe (w:To)(n d:Nat)(g:SG):List ZA×Bool×Bool×Nat:=(fw SA false w n g,true,true,d)
noncomputable def zn (w:To)(n:Nat)(g:SG):List ZA×Bool×GoStatus×Nat:=(fE SA false w n g,iP SA false n g,(cz SA false n g).status,jF SA false n 0 g)
noncomputable def zm (w:To)(n:Nat)(g:SG):List ZA×Bool×GoStatus×Nat:=(fw SA false w n g,true,.finished,0)
noncomputable def qu (g:SG):Bool:= !(SA.funcs[g.frame.fn]?).any (·.norace)
noncomputable def zT (w:To)(h:SG):=(ce h,bN h,ff w 31 1 (fin h (.int .u64 0)),ce (yI h),ff w 3 0 (fin (yI h) (.tuple #[])),oO (N3 h),ce (va Wg h),bN (va Wg h),ff w 22 0 (fin (va Wg h) (.tuple #[])),uR (D2 Wg h),qu (D2 Wg h),xb (vb Wg c h),qu (vb Wg c h),bN (vb Wg c h),mayWake SA (vb Wg c h),zn w 4 (HZ Wg c h))
noncomputable def zR (w:To)(h:SG):=(some ((135:TS),#[pW Wg 0]),true,fe w 31 1 (fin h (.int .u64 0)),some ((112:TS),(#[]:Array SO)),fe w 3 0 (fin (yI h) (.tuple #[])),some ((158:TypeId),(160:TypeId),pW Wg 0),some ((123:TS),#[pW Wg 0]),true,fe w 22 0 (fin (va Wg h) (.tuple #[])),some ((139:TypeId),pW fc 0),true,some (XO (some c)),true,true,true,zm w 4 (HZ Wg c h))
noncomputable def fT (w:To)(b:SG):=(ce b,bN b,ff w 25 1 (fin b (.bool false)),ff w 19 1 (fin b (.bool true)),oO (f96 b),ce (f97 Wg b),bN (f97 Wg b),ff w 23 1 (fin (f97 Wg b) (.tuple #[])),ce (f121 Wg b),(f121 Wg b).offers,ff w 16 1 (fin (f121 Wg b) (.tuple #[])),ce (f138 Wg b),ff w 11 1 (fin (f138 Wg b) (.int .u64 0)),ce (f150 Wg b),ff w 3 0 (fin (f150 Wg b) (.tuple #[])),oO (f154 Wg b),ce (f155 Wg b),bN (f155 Wg b),ff w 12 0 (fin (f155 Wg b) (.tuple #[])),uR (f168 Wg b),qu (f168 Wg b),xb (f169 Wg c b),qu (f169 Wg c b),bN (f169 Wg c b),mayWake SA (f169 Wg c b),zn w 4 (f170 Wg c b))
noncomputable def fR (w:To)(b:SG)(v:Int):=(some ((137:TS),#[pW Wg 0,.int .u64 v,.int .u64 (v+1)]),true,fe w 25 1 (fin b (.bool false)),fe w 19 1 (fin b (.bool true)),some ((165:TypeId),(160:TypeId),pW Wg 1),some ((126:TS),#[pW Wg 1]),true,fe w 23 1 (fin (f97 Wg b) (.tuple #[])),some ((127:TS),#[pW Wg 1,.bool false]),(none:Option (Array CommCase×CommShape)),fe w 16 1 (fin (f121 Wg b) (.tuple #[])),some ((135:TS),#[pW Wg 0]),fe w 11 1 (fin (f138 Wg b) (.int .u64 0)),some ((112:TS),(#[]:Array SO)),fe w 3 0 (fin (f150 Wg b) (.tuple #[])),some ((158:TypeId),(160:TypeId),pW Wg 0),some ((123:TS),#[pW Wg 0]),true,fe w 12 0 (fin (f155 Wg b) (.tuple #[])),some ((139:TypeId),pW fc 0),true,some (XO (some c)),true,true,true,zm w 4 (f170 Wg c b))
set_option maxRecDepth 100000
theorem c0(w:To):(ff w 7 0 (e0 Wg fc),ce (e7 Wg fc),ff w 19 1 (e8 Wg fc))=(fe w 7 0 (e0 Wg fc),some ((111:TS),(#[]:Array SO)),fe w 19 1 (e8 Wg fc)):=by kernel_rfl
noncomputable def pT (w:To)(l:List Int)(v:Int):=(ff w 48 1 (fin (hd Wg fc l) (.int .u64 v)),fT Wg c w (bd Wg fc l v),zT Wg c w (hd Wg fc (v::l)))
noncomputable def pR (w:To)(l:List Int)(v:Int):=(fe w 48 1 (fin (hd Wg fc l) (.int .u64 v)),fR Wg fc c w (bd Wg fc l v) v,zR Wg fc c w (hd Wg fc (v::l)))
theorem zz(w:To):zT Wg c w (hd Wg fc [])=zR Wg fc c w (hd Wg fc []):=by kernel_rfl
theorem M8(w:To):pT Wg fc c w [] (4* 4294967296)=pR Wg fc c w [] (4* 4294967296):=by kernel_rfl
theorem M7(w:To):pT Wg fc c w [4* 4294967296] (3* 4294967296)=pR Wg fc c w [4* 4294967296] (3* 4294967296):=by kernel_rfl
theorem M4(w:To):pT Wg fc c w [3* 4294967296,4* 4294967296] (2* 4294967296)=pR Wg fc c w [3* 4294967296,4* 4294967296] (2* 4294967296):=by kernel_rfl
theorem MW(w:To):pT Wg fc c w [2* 4294967296,3* 4294967296,4* 4294967296] (1* 4294967296)=pR Wg fc c w [2* 4294967296,3* 4294967296,4* 4294967296] (1* 4294967296):=by kernel_rfl
theorem MZ(w:To):pT Wg fc c w [3* 4294967296,4* 4294967296] (1* 4294967296)=pR Wg fc c w [3* 4294967296,4* 4294967296] (1* 4294967296):=by kernel_rfl
theorem M5(w:To):pT Wg fc c w [4* 4294967296] (2* 4294967296)=pR Wg fc c w [4* 4294967296] (2* 4294967296):=by kernel_rfl
theorem MX(w:To):pT Wg fc c w [2* 4294967296,4* 4294967296] (1* 4294967296)=pR Wg fc c w [2* 4294967296,4* 4294967296] (1* 4294967296):=by kernel_rfl
theorem M0(w:To):pT Wg fc c w [4* 4294967296] (1* 4294967296)=pR Wg fc c w [4* 4294967296] (1* 4294967296):=by kernel_rfl
theorem M6(w:To):pT Wg fc c w [] (3* 4294967296)=pR Wg fc c w [] (3* 4294967296):=by kernel_rfl
theorem M3(w:To):pT Wg fc c w [3* 4294967296] (2* 4294967296)=pR Wg fc c w [3* 4294967296] (2* 4294967296):=by kernel_rfl
theorem MV(w:To):pT Wg fc c w [2* 4294967296,3* 4294967296] (1* 4294967296)=pR Wg fc c w [2* 4294967296,3* 4294967296] (1* 4294967296):=by kernel_rfl
theorem MY(w:To):pT Wg fc c w [3* 4294967296] (1* 4294967296)=pR Wg fc c w [3* 4294967296] (1* 4294967296):=by kernel_rfl
theorem M1(w:To):pT Wg fc c w [] (2* 4294967296)=pR Wg fc c w [] (2* 4294967296):=by kernel_rfl
theorem MU(w:To):pT Wg fc c w [2* 4294967296] (1* 4294967296)=pR Wg fc c w [2* 4294967296] (1* 4294967296):=by kernel_rfl
theorem MT(w:To):pT Wg fc c w [] (1* 4294967296)=pR Wg fc c w [] (1* 4294967296):=by kernel_rfl
end
section
variable {P:SI}{Wg:Nat}{Stop:Nat->SG->Prop}
theorem PQ{n d d':Nat}{g:SG}(h:∀w,ff w n d g=fe w n d' g):(∀w,fE SA false w n g=fw SA false w n g)/\iP SA false n g=true/\bN (cz SA false n g)=true/\jF SA false n d g=d':=
 ⟨λw=>(dS (h w)).1,(dS (h default)).2.1,(dS (h default)).2.2.1,(dS (h default)).2.2.2⟩
theorem xf{n d d':Nat}{g:SG}(h:∀w,ff w n d g=fe w n d' g)(hs:∃m,cO SA Stop m d' (cz SA false n g)):∃m,cO SA Stop m d g:=by
 obtain⟨h1,h2,_,h4⟩:=PQ h;exact wC n d g h1 h2 (by rw[h4];exact hs)
theorem Jc{n d d':Nat}{g:SG}(h:∀w,ff w n d g=fe w n d' g)(hs:∃m,gX SA Wg Stop m d' (cz SA false n g)):∃m,gX SA Wg Stop m d g:=by
 obtain⟨h1,h2,_,h4⟩:=PQ h;exact acA n d g h1 h2 (by rw[h4];exact hs)
theorem ahe{n:Nat}{g:SG}(h:∀w,zn w n g=zm w n g):∃q,Y5 SA q 0 g:=
 Hh n 0 g (λw=>(dS (h w)).1) (dS (h default)).2.1 (Nc (dS (h default)).2.2.1 (dS (h default)).2.2.2)
theorem aqd{d:Nat}{g g':SG}{es:Array Ur}(hr:g.status=.running)(hm:∀e∈es,WC e=true)(h:∀w,stepG P false g w=.go g' w es)(hs:∃m,gX P Wg Stop m (deafBehind d es) g'):∃m,gX P Wg Stop m d g:=by
 obtain⟨m,fM⟩:=hs;exact⟨m+1,.inr ⟨hr,g',es,hm,λw _ _ _=>h w,fM⟩⟩
end
set_option maxRecDepth 100000
theorem t173:(SA.underlying 139).map TypeDesc.agg=some false:=by kernel_rfl
theorem Nd{g:SG}{o:Tu}(h:ready g=some o):bN g=true:=by
 obtain⟨_,_,_,_,_,_,_,_,_,_,_,_,_,_,hr⟩:=ready.out h;unfold bN;rw[hr]
theorem zb{g:SG}{f:TS}{vs:Array SO}(h:ce g=some (f,vs)):bN g=true:=by
 obtain⟨_,_,_,h1,_,_⟩:=ce.out h;exact Nd h1
theorem Ph{g:SG}{s d:TypeId}{v:SO}(h:oO g=some (s,d,v)):bN g=true:=by
 unfold oO at h;split at h
 ·rename_i ho;exact Nd ho
 ·cases h
theorem amD{g:SG}{t:TypeId}{v:SO}(h:uR g=some (t,v)):bN g=true:=by
 unfold uR at h;split at h
 ·rename_i ho;exact Nd ho
 ·cases h
section
variable {Wg fc c:Nat}{Im:cm}
theorem Om{n:Nat}{g:SG}(hi:Im fc 0=some (.chan (some c)))(h1:ce g=some (123,#[pW Wg 0])) (h3:∀w,ff w n 0 (fin g (.tuple #[]))=fe w n 0 (fin g (.tuple #[])))
  (h4:uR (cz SA false n (fin g (.tuple #[])))=some (139,pW fc 0)) (h5:qu (cz SA false n (fin g (.tuple #[])))=true)
  (h6:xb (fin (cz SA false n (fin g (.tuple #[]))) (.chan (some c)))=some (.chan (some c))) (h7:qu (fin (cz SA false n (fin g (.tuple #[]))) (.chan (some c)))=true) (h8:bN (fin (cz SA false n (fin g (.tuple #[]))) (.chan (some c)))=true)
  (h9:mayWake SA (fin (cz SA false n (fin g (.tuple #[]))) (.chan (some c)))=true) (h10:∀w,zn w 4 (fin (fin (cz SA false n (fin g (.tuple #[]))) (.chan (some c))) (.tuple #[]))=zm w 4 (fin (fin (cz SA false n (fin g (.tuple #[]))) (.chan (some c))) (.tuple #[]))):tL SA Im c Wg 0 g:=by
 refine⟨rfl,bN.out (zb h1),_,λw=>Hx .acquire (λ_ _ h=>by cases h) h1 agQ,?_⟩;refine xf h3 ⟨0,rfl,bN.out (amD h4),fc,0,_,_,hi,λw hc=> ?_,0,rfl,bN.out h8,h9,_,λw s hw=> ?_,ahe h10⟩
 ·obtain⟨d,bY,jV⟩:=Tp.1 t173;exact aqs h4 bY jV (by simpa[qu]using h5) hc
 ·exact aqr h6 (by simpa[qu]using h7) hw
theorem aaz{n1 n2:Nat}{g:SG}(h1:∀w,ff w n1 1 g=fe w n1 1 g)(h2:ce (cz SA false n1 g)=some (112,#[])) (h3:∀w,ff w n2 0 (fin (cz SA false n1 g) (.tuple #[]))=fe w n2 0 (fin (cz SA false n1 g) (.tuple #[])))
  (h4:oO (cz SA false n2 (fin (cz SA false n1 g) (.tuple #[])))=some (158,160,pW Wg 0)) (h5:tL SA Im c Wg 0 (fin (cz SA false n2 (fin (cz SA false n1 g) (.tuple #[]))) (pW Wg 0))):∃n,gX SA Wg (tL SA Im c Wg) n 1 g:=by
 refine Jc h1 ?_;refine aqd (bN.out (zb h2)) (My (.inr rfl)) (λw=>Hw (λ_ h=>by cases h) h2 agN) ?_;refine Jc (d:=deafBehind 1 #[⟨.mark .enable,false,true⟩]) h3 ?_;exact acB (bN.out (Ph h4)) (λw x y hW=>Hy h4 adl HE i182 hW.st.1) ⟨0,h5⟩
theorem asf{h:SG}(hi:Im fc 0=some (.chan (some c)))(H:∀w,zT Wg c w h=zR Wg fc c w h):ce h=some (135,#[pW Wg 0])/\∃n,gX SA Wg (tL SA Im c Wg) n 1 (fin h (.int .u64 0)):=by
 have key:∀w,ce h=some ((135:TS),#[pW Wg 0])/\bN h=true/\ff w 31 1 (fin h (.int .u64 0))=fe w 31 1 (fin h (.int .u64 0))/\ce (yI h)=some ((112:TS),(#[]:Array SO))/\ff w 3 0 (fin (yI h) (.tuple #[]))=fe w 3 0 (fin (yI h) (.tuple #[]))/\oO (N3 h)=some ((158:TypeId),(160:TypeId),pW Wg 0)/\ce (va Wg h)=some ((123:TS),#[pW Wg 0])/\bN (va Wg h)=true/\ff w 22 0 (fin (va Wg h) (.tuple #[]))=fe w 22 0 (fin (va Wg h) (.tuple #[]))/\uR (D2 Wg h)=some ((139:TypeId),pW fc 0)/\qu (D2 Wg h)=true/\xb (vb Wg c h)=some (XO (some c))/\qu (vb Wg c h)=true/\bN (vb Wg c h)=true/\mayWake SA (vb Wg c h)=true/\zn w 4 (HZ Wg c h)=zm w 4 (HZ Wg c h):=λw=>by
  have:=H w;unfold zT zR at this;simpa only[U2]using this
 obtain⟨k1,k2,_,k4,_,k6,k7,k8,_,C1,L2,Al,L3,C2,L4,_⟩:=key default;refine⟨k1,aaz (n1:=31) (n2:=3) (λw=>(key w).2.2.1) k4 (λw=>(key w).2.2.2.2.1) k6 ?_⟩;exact Om (n:=22) hi k7 (λw=>(key w).2.2.2.2.2.2.2.2.1) C1 L2 Al L3 C2 L4 (λw=>(key w).2.2.2.2.2.2.2.2.2.2.2.2.2.2.2)
theorem aga{b:SG}{v:Nat}(hv:0<v)(hi:Im fc 0=some (.chan (some c)))(H:∀w,fT Wg c w b=fR Wg fc c w b ((v:Int)* 4294967296))(hm:∃n,cO SA (ez SA Im c Wg v) n 1 (Mt b)):D4 SA c Wg Im v 1 b:=by
 have key:∀w,ce b=some ((137:TS),#[pW Wg 0,.int .u64 ((v:Int)* 4294967296),.int .u64 ((v:Int)* 4294967296+1)])/\bN b=true/\ff w 25 1 (fin b (.bool false))=fe w 25 1 (fin b (.bool false))/\ff w 19 1 (fin b (.bool true))=fe w 19 1 (fin b (.bool true))/\oO (f96 b)=some ((165:TypeId),(160:TypeId),pW Wg 1)/\ce (f97 Wg b)=some ((126:TS),#[pW Wg 1])/\bN (f97 Wg b)=true/\ff w 23 1 (fin (f97 Wg b) (.tuple #[]))=fe w 23 1 (fin (f97 Wg b) (.tuple #[]))/\ce (f121 Wg b)=some ((127:TS),#[pW Wg 1,.bool false])/\(f121 Wg b).offers=none/\ff w 16 1 (fin (f121 Wg b) (.tuple #[]))=fe w 16 1 (fin (f121 Wg b) (.tuple #[]))/\ce (f138 Wg b)=some ((135:TS),#[pW Wg 0])/\ff w 11 1 (fin (f138 Wg b) (.int .u64 0))=fe w 11 1 (fin (f138 Wg b) (.int .u64 0))/\ce (f150 Wg b)=some ((112:TS),(#[]:Array SO))/\ff w 3 0 (fin (f150 Wg b) (.tuple #[]))=fe w 3 0 (fin (f150 Wg b) (.tuple #[]))/\oO (f154 Wg b)=some ((158:TypeId),(160:TypeId),pW Wg 0)/\ce (f155 Wg b)=some ((123:TS),#[pW Wg 0])/\bN (f155 Wg b)=true/\ff w 12 0 (fin (f155 Wg b) (.tuple #[]))=fe w 12 0 (fin (f155 Wg b) (.tuple #[]))/\uR (f168 Wg b)=some ((139:TypeId),pW fc 0)/\qu (f168 Wg b)=true/\xb (f169 Wg c b)=some (XO (some c))/\qu (f169 Wg c b)=true/\bN (f169 Wg c b)=true/\mayWake SA (f169 Wg c b)=true/\zn w 4 (f170 Wg c b)=zm w 4 (f170 Wg c b):=λw=>by
  have:=H w;unfold fT fR at this;simpa only[U2]using this
 obtain⟨k1,k2,_,_,k5,k6,k7,_,k9,C1,_,Al,_,C2,_,L6,L7,k18,_,L8,L9,L_,Ma,Mb,Mc,_⟩:=key default;refine⟨rfl,bN.out k2,⟨_,λw hW=>aqp k1 PL hW.st.1 hW.st.2.2.1,?_⟩,λu hu=>⟨_,λw hW=>aqq k1 PL hW.st.1 hW.st.2.2.1 (λe=> ?_),?_⟩⟩
 ·refine Jc (λw=>(key w).2.2.2.1) ?_;have hs:SA.underlying 165=some (.pointer (HF.choose))/\(SA.info? HF.choose).map (λi=>decide (i.size=0))=some false:=HF.choose_spec;refine acB (bN.out (Ph k5)) (λw x y hW=>Hy k5 hs.1 HE hs.2 hW.st.2.1) ⟨0,rfl,bN.out k7,_,λw=>Hx .write (λ_ _ h=>by cases h) k6 agR,?_⟩;refine xf (λw=>(key w).2.2.2.2.2.2.2.1) ⟨0,rfl,bN.out (zb k9),C1,λw st hW=> ?_,fin (f121 Wg b) (.tuple #[]),λw hW=> ?_,?_⟩
  ·exact aqv k9 PJ hW.st.2.1
  ·exact aqt (n:=1) k9 PJ hW.st.2.1 (by decide) hW.st.2.2.2
  ·refine xf (λw=>(key w).2.2.2.2.2.2.2.2.2.2.1) ⟨0,rfl,bN.out (zb Al),_,λw hW=>Nv Al I5 hW.st.1,?_⟩;refine aaz (n1:=11) (n2:=3) (λw=>(key w).2.2.2.2.2.2.2.2.2.2.2.2.1) C2 (λw=>(key w).2.2.2.2.2.2.2.2.2.2.2.2.2.2.1) L6 ?_;exact Om (n:=12) hi L7 (λw=>(key w).2.2.2.2.2.2.2.2.2.2.2.2.2.2.2.2.2.2.1) L8 L9 L_ Ma Mb Mc (λw=>(key w).2.2.2.2.2.2.2.2.2.2.2.2.2.2.2.2.2.2.2.2.2.2.2.2.2)
 ·unfold KK at e;omega
 ·exact xf (λw=>(key w).2.2.1) hm
theorem mA(hi:Im fc 0=some (.chan (some c))){h:SG}{k:Nat}(hz:∀w,zT Wg c w h=zR Wg fc c w h)
  (hv:∀v,0<v->v<=k->v<=4->(∀w,ff w 48 1 (fin h (.int .u64 ((v:Int)* 4294967296)))=fe w 48 1 (fin h (.int .u64 ((v:Int)* 4294967296))))/\(∀w,fT Wg c w (f76 h ((v:Int)* 4294967296))=fR Wg fc c w (f76 h ((v:Int)* 4294967296)) ((v:Int)* 4294967296))/\ez SA Im c Wg v 1 (Mt (f76 h ((v:Int)* 4294967296)))):ez SA Im c Wg (k+1) 1 h:=by
 obtain⟨z1,z2⟩:=asf hi hz;rw[ez];refine⟨rfl,bN.out (zb z1),λv h1 h2=> ?_⟩;refine⟨_,λw hW=>Nv z1 I5 hW.st.1,λe=> ?_,λe=> ?_⟩
 ·subst e;exact z2
 ·obtain⟨q1,q2,q3⟩:=hv v (by omega) h1 h2;exact xf q1 ⟨0,aga (by omega) hi q2 ⟨0,q3⟩⟩
theorem dN{l:List Int}{v:Int}(h:∀w,pT Wg fc c w l v=pR Wg fc c w l v):(∀w,ff w 48 1 (fin (hd Wg fc l) (.int .u64 v))=fe w 48 1 (fin (hd Wg fc l) (.int .u64 v)))/\(∀w,fT Wg c w (bd Wg fc l v)=fR Wg fc c w (bd Wg fc l v) v)/\(∀w,zT Wg c w (hd Wg fc (v::l))=zR Wg fc c w (hd Wg fc (v::l))):=by
 refine⟨λw=>(WX (h w)).1,λw=>(WX (WX (h w)).2).1,λw=>(WX (WX (h w)).2).2⟩
end
section
variable (Wg fc c:Nat){Im:cm}
theorem akQ(hi:Im fc 0=some (.chan (some c))):ez SA Im c Wg 1 1 (hd Wg fc [1* 4294967296]):=by
 refine mA (k:=0) hi (dN (MT Wg fc c)).2.2 λv h1 h2 h3=> ?_;omega
theorem akR(hi:Im fc 0=some (.chan (some c))):ez SA Im c Wg 1 1 (hd Wg fc [1* 4294967296,2* 4294967296]):=by
 refine mA (k:=0) hi (dN (MU Wg fc c)).2.2 λv h1 h2 h3=> ?_;omega
theorem akY(hi:Im fc 0=some (.chan (some c))):ez SA Im c Wg 2 1 (hd Wg fc [2* 4294967296]):=by
 refine mA (k:=1) hi (dN (M1 Wg fc c)).2.2 λv h1 h2 h3=> ?_;rcases(show v=1 by omega)with rfl
 ·exact⟨(dN (MU Wg fc c)).1,(dN (MU Wg fc c)).2.1,akR Wg fc c hi⟩
theorem akV(hi:Im fc 0=some (.chan (some c))):ez SA Im c Wg 1 1 (hd Wg fc [1* 4294967296,3* 4294967296]):=by
 refine mA (k:=0) hi (dN (MY Wg fc c)).2.2 λv h1 h2 h3=> ?_;omega
theorem akS(hi:Im fc 0=some (.chan (some c))):ez SA Im c Wg 1 1 (hd Wg fc [1* 4294967296,2* 4294967296,3* 4294967296]):=by
 refine mA (k:=0) hi (dN (MV Wg fc c)).2.2 λv h1 h2 h3=> ?_;omega
theorem akZ(hi:Im fc 0=some (.chan (some c))):ez SA Im c Wg 2 1 (hd Wg fc [2* 4294967296,3* 4294967296]):=by
 refine mA (k:=1) hi (dN (M3 Wg fc c)).2.2 λv h1 h2 h3=> ?_;rcases(show v=1 by omega)with rfl
 ·exact⟨(dN (MV Wg fc c)).1,(dN (MV Wg fc c)).2.1,akS Wg fc c hi⟩
theorem ak2(hi:Im fc 0=some (.chan (some c))):ez SA Im c Wg 3 1 (hd Wg fc [3* 4294967296]):=by
 refine mA (k:=2) hi (dN (M6 Wg fc c)).2.2 λv h1 h2 h3=> ?_;rcases(show v=1\/v=2 by omega)with rfl|rfl
 ·exact⟨(dN (MY Wg fc c)).1,(dN (MY Wg fc c)).2.1,akV Wg fc c hi⟩
 ·exact⟨(dN (M3 Wg fc c)).1,(dN (M3 Wg fc c)).2.1,akZ Wg fc c hi⟩
theorem akX(hi:Im fc 0=some (.chan (some c))):ez SA Im c Wg 1 1 (hd Wg fc [1* 4294967296,4* 4294967296]):=by
 refine mA (k:=0) hi (dN (M0 Wg fc c)).2.2 λv h1 h2 h3=> ?_;omega
theorem akU(hi:Im fc 0=some (.chan (some c))):ez SA Im c Wg 1 1 (hd Wg fc [1* 4294967296,2* 4294967296,4* 4294967296]):=by
 refine mA (k:=0) hi (dN (MX Wg fc c)).2.2 λv h1 h2 h3=> ?_;omega
theorem ak1(hi:Im fc 0=some (.chan (some c))):ez SA Im c Wg 2 1 (hd Wg fc [2* 4294967296,4* 4294967296]):=by
 refine mA (k:=1) hi (dN (M5 Wg fc c)).2.2 λv h1 h2 h3=> ?_;rcases(show v=1 by omega)with rfl
 ·exact⟨(dN (MX Wg fc c)).1,(dN (MX Wg fc c)).2.1,akU Wg fc c hi⟩
theorem akW(hi:Im fc 0=some (.chan (some c))):ez SA Im c Wg 1 1 (hd Wg fc [1* 4294967296,3* 4294967296,4* 4294967296]):=by
 refine mA (k:=0) hi (dN (MZ Wg fc c)).2.2 λv h1 h2 h3=> ?_;omega
theorem akT(hi:Im fc 0=some (.chan (some c))):ez SA Im c Wg 1 1 (hd Wg fc [1* 4294967296,2* 4294967296,3* 4294967296,4* 4294967296]):=by
 refine mA (k:=0) hi (dN (MW Wg fc c)).2.2 λv h1 h2 h3=> ?_;omega
theorem ak0(hi:Im fc 0=some (.chan (some c))):ez SA Im c Wg 2 1 (hd Wg fc [2* 4294967296,3* 4294967296,4* 4294967296]):=by
 refine mA (k:=1) hi (dN (M4 Wg fc c)).2.2 λv h1 h2 h3=> ?_;rcases(show v=1 by omega)with rfl
 ·exact⟨(dN (MW Wg fc c)).1,(dN (MW Wg fc c)).2.1,akT Wg fc c hi⟩
theorem ak3(hi:Im fc 0=some (.chan (some c))):ez SA Im c Wg 3 1 (hd Wg fc [3* 4294967296,4* 4294967296]):=by
 refine mA (k:=2) hi (dN (M7 Wg fc c)).2.2 λv h1 h2 h3=> ?_;rcases(show v=1\/v=2 by omega)with rfl|rfl
 ·exact⟨(dN (MZ Wg fc c)).1,(dN (MZ Wg fc c)).2.1,akW Wg fc c hi⟩
 ·exact⟨(dN (M4 Wg fc c)).1,(dN (M4 Wg fc c)).2.1,ak0 Wg fc c hi⟩
theorem ak4(hi:Im fc 0=some (.chan (some c))):ez SA Im c Wg 4 1 (hd Wg fc [4* 4294967296]):=by
 refine mA (k:=3) hi (dN (M8 Wg fc c)).2.2 λv h1 h2 h3=> ?_;rcases(show v=1\/v=2\/v=3 by omega)with rfl|rfl|rfl
 ·exact⟨(dN (M0 Wg fc c)).1,(dN (M0 Wg fc c)).2.1,akX Wg fc c hi⟩
 ·exact⟨(dN (M5 Wg fc c)).1,(dN (M5 Wg fc c)).2.1,ak1 Wg fc c hi⟩
 ·exact⟨(dN (M7 Wg fc c)).1,(dN (M7 Wg fc c)).2.1,ak3 Wg fc c hi⟩
theorem hq_(hi:Im fc 0=some (.chan (some c))):ez SA Im c Wg 5 1 (hd Wg fc []):=by
 refine mA (k:=4) hi (zz Wg fc c) λv h1 h2 h3=> ?_;rcases(show v=1\/v=2\/v=3\/v=4 by omega)with rfl|rfl|rfl|rfl
 ·exact⟨(dN (MT Wg fc c)).1,(dN (MT Wg fc c)).2.1,akQ Wg fc c hi⟩
 ·exact⟨(dN (M1 Wg fc c)).1,(dN (M1 Wg fc c)).2.1,akY Wg fc c hi⟩
 ·exact⟨(dN (M6 Wg fc c)).1,(dN (M6 Wg fc c)).2.1,ak2 Wg fc c hi⟩
 ·exact⟨(dN (M8 Wg fc c)).1,(dN (M8 Wg fc c)).2.1,ak4 Wg fc c hi⟩
theorem agh(hi:Im fc 0=some (.chan (some c))):H7 SA Im c Wg (born SA ⟨.fn (.func 100) #[pW Wg 0,pW fc 0],#[]⟩):=by
 have h0:∀w,ff w 7 0 (e0 Wg fc)=fe w 7 0 (e0 Wg fc)/\ce (e7 Wg fc)=some ((111:TS),(#[]:Array SO))/\ff w 19 1 (e8 Wg fc)=fe w 19 1 (e8 Wg fc):=λw=>by
  have:=c0 Wg fc w;simpa only[U2]using this
 show ∃n,cO SA (ez SA Im c Wg 5) n 0 (e0 Wg fc);refine xf (λw=>(h0 w).1) ?_;refine Nr (bN.out (zb (h0 default).2.1)) (My (.inl rfl)) (λw=>Hw (λ_ h=>by cases h) (h0 default).2.1 I4) ?_;exact xf (d:=deafBehind 0 #[⟨.mark .disable,false,true⟩]) (λw=>(h0 w).2.2) ⟨0,hq_ Wg fc c hi⟩
end
open Go.Gg.Tk
section
variable {lv:Bool}{P:SI}{r:Option Nat}{nt:Nat}{E:Env}{V:View}{a:Act}{s:AS}{c:T6}{Q:Ex->Act->View->Prop}
theorem y9(s3:AS)(ai:At E V s a nt)(h:aQ lv P r nt c s (λe s'=>match e with|.normal=>s'.Sub s3|_=>False))(hQ:∀E' V' a',Kept E E' V V' a a'->At E' V' s3 a' nt->Q .normal a' V'):WP lv P r c Q a V:=
 h E V a Q ai λae e E' V' a' s' hk aU he hΦ=>by
  cases ae<;>cases e<;>first
   |exact he.elim
   |exact hΦ.elim
   |exact hQ E' V' a' hk (aU.sub hΦ)
theorem unwind_mark{lv:Bool}{P:SI}{main:Bool}{J:View->SG->Prop}(C:Closed lv P main J){V:View}{fr:Uc}{cs:List Uc}{b:Nat}{ds:List UX}(h4:fr.defers={target:=.collected b,args:=#[]}::ds) (hm:(fr.mode matches .run)=false) (ho:V.own b=some (.deferred (some []))) (eP:V.role.chan≠some b) (h:J (V.upd b (.deferred none)) (G {fr with defers:=ds} cs)):J V (G fr cs):=by
 refine C.step _ _ rfl λw hw=> ?_;obtain⟨es,w',V',k1,k2,k3⟩:=(Nn (P:=P) ho eP).runs hw;rcases k3 with⟨x,k3,rfl,rfl⟩|⟨_,_,hx⟩
 ·refine⟨G {fr with defers:=ds} cs,w',seen P fr.fn es,_,?_,k1.seen P fr.fn,h⟩;have e:stepG P main (G fr cs) w=unwind P main fr cs none w:=by
   obtain⟨fn,tmps,todo,defers,mode,kind,ro⟩:=fr;cases mode with
   |run=>cases hm
   |returning=>simp[G,stepG]
   |panicking ch=>simp[G,stepG]
  rw[e];simp only[unwind,h4];simp[TA,k3,k2,T5,G]
 ·exact hx.elim
theorem eo{s s':AS}(h:∀p∈s'.T,∃b,look s.T p.1=some b/\Wk b p.2)(hH:s.H=s'.H):s.Sub s':=⟨λ_ _ e=>h _ (ow e),hH⟩
theorem ub{E:Env}{x v:SO}(h:aq E (.val x) v):v=x:=by cases h;rfl
theorem EI{E:Env}{cs:Array SO}(h:cF E [] cs):cs=#[]:=Array.size_eq_zero_iff.1 h.1
theorem Px{E:Env}{l:List SO}{cs:Array SO}(h:cF E (l.map .val) cs):cs=l.toArray:=by
 have hs:cs.size=l.length:=by simpa using h.1
 refine Array.ext hs λi h1 h2=> ?_;have hi:i<l.length:=by simpa using h2
 have:=ub (h.2 i (.val l[i]) (by simp[SY hi]));rw[SH,SJ h1]at this;simpa using this
def rK (K:Kn)(b:Nat):List SO:=.bool K.has:: .map (some b)::(K.aB.map (λn:Nat=>SF .u16 n)++(K.hours.map (λn:Nat=>SF .u16 n)++(K.less.map (λn:Nat=>SF .u16 n)++(K.aV.map (λn:Nat=>SF .u16 n)++K.first.map (SF .i64)))))
def rJ (K:Kn):Obj:=.map (K.aK.zipIdx.map ek).toArray K.aK.length
theorem agw{E:Env}{K:Kn}{mp:Nat}{v:SO}(h:aq E (.agg (K.l mp)) v):v=.agg (rK K (E.blk mp)).toArray:=by
 cases h with
 |agg hs h=>
  rename_i cs;congr 1;have hl:(K.l mp).length=(rK K (E.blk mp)).length:=by simp[Kn.l,rK]
  have key:∀(i:Nat)(x:AV),(K.l mp)[i]?=some x->∀y,aq E x y->(rK K (E.blk mp))[i]?=some y:=by
   intro i x hx y hy
   match i with
   |0=>cases hx;rw[ub hy];rfl
   |1=>cases hx;cases hy;rfl
   |i+2=>
    have e:(K.l mp)[i+2]?=((K.aB.map (λn:Nat=>SF .u16 n)++(K.hours.map (λn:Nat=>SF .u16 n)++(K.less.map (λn:Nat=>SF .u16 n)++(K.aV.map (λn:Nat=>SF .u16 n)++K.first.map (SF .i64))))).map AV.val)[i]?:=by
     simp[Kn.l,wv,iv,Yy]
    rw[e,Tm]at hx;obtain⟨z,h1,rfl⟩:=Tp.1 hx;rw[ub hy];exact h1
  have o_:cs.size=(rK K (E.blk mp)).length:=hs.trans hl;refine Array.ext o_ λi h1 h2=> ?_;have hi:i<(K.l mp).length:=by omega
  have:=key i _ (SY hi) _ (h i _ (SY hi));rw[SH,SJ h1]at this;have h3:(rK K (E.blk mp)).toArray[i]?=some cs[i]:=by simpa using this
  rw[SJ h2]at h3;exact(Wj h3).symm
def qz (x:ak)(deep:Int)(bk:Nat):Spec:=λv _ Ow=>∃b,v=.agg (rK (gG x deep bk) b).toArray/\∀b',Ow b'=if b'=b then some (rJ (gG x deep bk))else none
set_option maxRecDepth 100000 in
theorem aoi:SA.funcs.size=184:=by kernel_rfl
theorem NS{x:ak}{deep:Int}{bk:Nat}(hx:x.Ok)(hA:∀h∈kq x bk,mm h/\∀ns∈fP x h,∀a∈(ij x h ns).map (dx h ns),jj x a):bJ (gG x deep bk):=by
 unfold gG;refine JE hx (λt ht=> ?_) C3;obtain⟨h,h1,h2⟩:=S6.1 ht;obtain⟨ns,h3,h4⟩:=NL h2;exact(hA h h1).2 ns h3 t h4
theorem ar3{J:View->SG->Prop}(C:yJ SA false J){E:Env}{V:View}{x:ak}{bk c Wg:Nat}{deep:Int}{rv tv dv fv:SO}(hx:x.Ok)(lF:bk<=3)(hA:∀h∈kq x bk,mm h/\∀ns∈fP x h,∀a∈(ij x h ns).map (dx h ns),jj x a)(ajO:Conc E V [])
  (hr:aq E (.rp x.l) rv) (ht:aq E (.rp [iv bk]) tv) (hd:aq E (.rp [iv deep]) dv) (hf:aq E (.rp [.val (.chan (some c))]) fv) (bW:V.role=.work c Wg [qz x deep bk]) (eQ:V.deaf=0):J V (born SA ⟨.fn (.func 97) #[pW Wg 0,rv,tv,dv,fv],#[]⟩):=by
 have C':Closed false SA false J:={C with more:=λh=>by cases h};unfold born;rw[aoi];refine ado C' (fr:={(default:Uc)with fn:=184,defers:=[⟨.fn (.func 97) #[pW Wg 0,rv,tv,dv,fv],#[]⟩],mode:=.panicking [goexitEntry]}) (ds:=[]) rfl rfl (by kernel_rfl) ?_;refine ag1 (Q:=λa' V'=>∃b,a'.defers=[{target:=.collected b,args:=#[]},⟨.fn (.func 98) #[],#[pW Wg 0]⟩]/\V'.own b=some (.deferred (some []))/\V'.role=.work c Wg []/\V'.deaf=0) C' (by simp) F.f97 rfl ?_ ?_
 rotate_left
 ·rintro a' V' todo ⟨b,h1,h0,h2,h3⟩
  refine unwind_mark C' (ds:=[⟨.fn (.func 98) #[],#[pW Wg 0]⟩]) h1 rfl h0 (by rw[h2];simp[mN.chan]) ?_;refine ado C' (ds:=[]) rfl rfl (by kernel_rfl) ?_;exact agH Wg a'.tmps todo C h2 h3
 have cJ:cF E [.val (pW Wg 0),.rp x.l,.rp [iv bk],.rp [iv deep],.rp [.val (.chan (some c))]] (#[]++#[pW Wg 0,rv,tv,dv,fv]):=by
  refine⟨rfl,λi a e=> ?_⟩
  match i,e with
  |0,e=>cases e;exact .val _
  |1,e=>cases e;exact hr
  |2,e=>cases e;exact ht
  |3,e=>cases e;exact hd
  |4,e=>cases e;exact hf
 have ai:=BD (nt:=25) ajO cJ (by simp);simp only[br,SW]at ai;refine wp_seq ?_;refine(OT (nt:=25) (n:=0) (ds:=[]) (Φ:=λe s' m8=>e=.normal/\s'=⟨[(0,.val (pW Wg 0)),(1,.rp x.l),(2,.rp [iv bk]),(3,.rp [iv deep]),(4,.rp [.val (.chan (some c))])],[]⟩/\m8=[(.fn (.func 98) [] [],[.val (pW Wg 0)])]) rfl rfl rfl rfl rfl rfl (by kernel_rfl) ?_) E V _ _ ai trivial λae e E1 V1 a1 s1 ds1 iz vN bY nh h1=> ?_
 ·(try simp only[seval]);exact⟨_,_,_,rfl⟩
 obtain⟨rfl,rfl,rfl⟩:=h1;cases e<;>first
  |exact nh.elim
  |skip
 have ajX:a1.defers=[⟨.fn (.func 98) #[],#[pW Wg 0]⟩]:=by
  match iZ:a1.defers,bY with
  |[d],bY=>
   obtain⟨⟨f,first,cQ,fa,ca,vs,q1,rfl,q3,q4,q5⟩,_⟩:=bY;cases q1;rw[EI q3,EI q4,Px (l:=[pW Wg 0]) q5];rfl
  |[],bY=>exact bY.elim
  |_::_::_,bY=>exact bY.2.elim
 refine wp_seq ?_;refine y9 ⟨[(5,.op 1 0),(0,.val (pW Wg 0)),(1,.rp x.l),(2,.rp [iv bk]),(3,.rp [iv deep]),(4,.rp [.val (.chan (some c))])],[setH [],.cells (Kn.zero.l 0) 88]⟩ vN ?_ λE2 V2 a2 cD ul=> ?_
 ·refine am ?_;exact eo (by simp only[seval];simp[bC,Wk.refl]) rfl
 refine wp_seq (wp_seq ?_);refine y9 ⟨uM x bk deep c (pW Wg 0),wi x bk Kn.zero⟩ ul ?_ λE3 V3 a3 v4 pU=> ?_
 ·have bM:x.l=[iv x.first,iv x.hours,iv x.an,dC x.seen,aT x.pieces,aT x.aC]:=rfl;refine aj ?_;simp only[seval,bM];refine aL ((Jm (x:=x) (n:=bk) ?_));(try simp only[seval]);exact eo (by unfold uM;simp only[seval];simp[bC,Wk.refl];exact Wk.refl _) rfl
 have ajY:a3.defers=[⟨.fn (.func 98) #[],#[pW Wg 0]⟩]:=v4.defers.trans (cD.defers.trans ajX);have ak5:V3.role=.work c Wg [qz x deep bk]:=v4.role.trans (cD.role.trans (iz.role.trans bW));have ajS:V3.deaf=0:=v4.deaf.trans (cD.deaf.trans (iz.deaf.trans eQ));refine alI (lv:=false) (bs:=[⟨.fn (.func 98) #[],#[pW Wg 0]⟩]) hx lF hA (λe s' cy=>e=.normal/\s'=⟨uM x bk deep c (pW Wg 0),wi x bk (gG x deep bk)++[.obj (.deferred (some [])),.gone]⟩/\cy=[4]) ⟨rfl,rfl,rfl⟩ E3 V3 a3 _ pU ⟨by simp[ajY],by simp⟩ λae e E4 V4 a4 s4 ms4 kQ rf akr he4 hΦ4=> ?_;obtain⟨rfl,rfl,rfl⟩:=hΦ4;cases e<;>first
  |exact he4.elim
  |skip
 have ajZ:a4.defers=[{target:=.collected (E4.blk 4),args:=#[]},⟨.fn (.func 98) #[],#[pW Wg 0]⟩]:=akr.1;have ak6:V4.role=.work c Wg [qz x deep bk]:=kQ.role.trans ak5;have Ri:V4.deaf=0:=kQ.deaf.trans ajS;have xx:bJ (gG x deep bk):=NS hx hA;generalize hW:gG x deep bk=W at rf xx;have Fp:=Kn.len xx 0;refine HP (K:=λs'=>look s'.T 23=some (.val (.chan (some c)))/\look s'.T 24=some (.agg (W.l 0))/\s'.Sub ⟨uM x bk deep c (pW Wg 0),wi x bk W++[.obj (.deferred (some [])),.gone]⟩) 2 1 rfl (by kernel_rfl) rf ?_ λE5 V5 a5 s5 f_ jU hK=> ?_
 ·unfold uM wi;(try simp only[seval,Fp]);rw[SP (i:=28) (by omega)];exact⟨rfl,eo (by simp only[seval];simp[bC,Wk.refl]) rfl⟩
 obtain⟨l23,l24,lD⟩:=hK;have Fu:=jU.sub lD;have e23:a5.eval (.tmp 23)=.chan (some c):=ub (jU.tok _ _ l23).2;have e24:a5.eval (.tmp 24)=.agg (rK W (E5.blk 0)).toArray:=agw (jU.tok _ _ l24).2;have h0:V5.own (E5.blk 0)=some (rJ W):=(Fu.bt.obj 0 (setH W.aK) rfl).1;have h4:V5.own (E5.blk 4)=some (.deferred (some [])):=(Fu.bt.obj 4 (.obj (.deferred (some []))) rfl).1;have aI:E5.blk 4≠E5.blk 0:=λe=>by rw[e,h0]at h4;cases h4
 have hb4:E5.blk 4=E4.blk 4:=f_.le.blk 4 (by rw[rf.bt.n];simp[wi]);refine NW rfl rfl ?_;refine⟨c,Wg,qz x deep bk,[],λb=>decide (b=E5.blk 0),e23,by rw[f_.role];exact ak6,f_.deaf.trans Ri,⟨E5.blk 0,by rw[hW];exact e24,λb'=> ?_⟩,?_⟩
 ·rw[hW];by_cases hb:b'=E5.blk 0
  ·subst hb;simp[h0]
  ·simp[hb]
 ·refine⟨trivial,E5.blk 4,?_,?_,rfl,f_.deaf.trans Ri⟩
  ·rw[hb4];exact f_.defers.trans ajZ
  ·show (if decide (E5.blk 4=E5.blk 0)=true then none else V5.own (E5.blk 4))=_;rw[if_neg (by simpa using aI)];exact h4
theorem anV(r:Option Nat):AV.parts (.val (.chan r))=some [.val (.chan r)]:=rfl
theorem asj(r:Option Nat):lO (.chan r)=[.val (.chan r)]:=rfl
theorem al5(r:Option Nat):AV.leaf (.val (.chan r))=true:=rfl
theorem NT{x y:T6}{t:Nat}{b:Bool}(ai:At E V s a nt)(hl:look s.T t=some (.val (.bool b)))(h:WP lv P r (if b then x else y) Q a V):WP lv P r (.cond (.tmp t) x y) Q a V:=by
 have hd:=(ai.tok t _ hl).2;generalize hx:a.tmps.getD t undef=v at hd;cases hd;exact wp_cond (t:=b) hx h
end
theorem Pt{E:Env}{f:Fn}{first cQ:List AV}{v:SO}(h:aq E (.fn f first cQ) v):∃fa ca,v=.func f fa ca/\cF E first fa/\cF E cQ ca:=by
 cases h with
 |fn dE fN h1 h2=>exact⟨_,_,rfl,⟨dE,h1⟩,⟨fN,h2⟩⟩
theorem BN{E:Env}{i o:Nat}{v:SO}(h:aq E (.op i o) v):v=.pointer (some ⟨E.blk i,o,none⟩):=by cases h;rfl
theorem GJ(x:ak)(n:Nat):∀a∈x.l,Lt n a:=by
 intro a ha;simp only[ak.l,SK,SZ,or_false]at ha;rcases ha with rfl|rfl|rfl|rfl|rfl|rfl
 ·exact .val _
 ·exact .val _
 ·exact .val _
 ·rw[aaS];trivial
 ·rw[GI];trivial
 ·rw[GI];trivial
theorem amM(x:ak):Lt 0 (.rp x.l):=by
 rw[yi];exact GJ x 0
set_option maxRecDepth 100000 in
theorem wgT:NP SA=147:=by kernel_rfl
def ci:T6->T6
 |.block _ c|.loop c|.scope c=>c
 |_=> .skip
noncomputable def uO:T6:=XL.body.getD .skip
noncomputable def l_:T6:=cs (cs (cs uO))
def sA:Obj:=.chan 0 #[] false 0 0 false
def jg:List AV:=bv false:: .val (.map none)::(TF 15 (wv 0)++TF 11 (iv 0))
def dp (x:ak)(deep:Int)(c:Nat):List aa:=[.part 6 x.l 76,.part 1 [iv deep] 3,.cells jg 88,.part 1 [.val (.chan (some c))] 139,.gone]
structure ji (x:ak)(deep:Int)(Hs:List aa)(E:Env)(c Wg:Nat)(rv dv fv:SO)(T:List (Nat×AV))(M:List aa)(E':Env)(V':View)(a':Act):Prop where
 ai:At E' V' ⟨T,Hs++(dp x deep c++M)⟩ a' 35
 lo:E.Lo E'
 main:E'.main=false
 defers:a'.defers=[]
 deaf:V'.deaf=0
 er:rv=.pointer (some ⟨E'.blk Hs.length,0,none⟩)
 ed:dv=.pointer (some ⟨E'.blk (Hs.length+1),0,none⟩)
 ef:fv=.pointer (some ⟨E'.blk (Hs.length+3),0,none⟩)
 dr:aq E' (.rp x.l) rv
 dd:aq E' (.rp [iv deep]) dv
 df:aq E' (.rp [.val (.chan (some c))]) fv
 fr:∀b y,E.fr b=some y->E'.fr b=some y/\b≠c/\b≠Wg
 ne:c≠Wg
section
variable {x:ak}{deep:Int}{Hs:List aa}{E:Env}{c Wg:Nat}{rv dv fv:SO}{T T':List (Nat×AV)}{M M' G:List aa}{E1 E2:Env}{V1 V2:View}{a1 a2:Act}
theorem ji.Hz(h:ji x deep Hs E c Wg rv dv fv T M E1 V1 a1)(le:E1.Le E2)(bx:a2.defers=a1.defers)(eQ:V2.deaf=V1.deaf)(ai:At E2 V2 ⟨T',Hs++(dp x deep c++M')⟩ a2 35):ji x deep Hs E c Wg rv dv fv T' M' E2 V2 a2:=by
 have hl:∀i,i<5->Hs.length+i<E1.n:=λi hi=>by rw[h.ai.bt.n];simp[dp];omega
 exact⟨ai,h.lo.trans le.lo,le.main.trans h.main,bx.trans h.defers,eQ.trans h.deaf,by have:=le.blk _ (hl 0 (by omega));rw[UD]at this;rw[this];exact h.er,by rw[le.blk _ (hl 1 (by omega))];exact h.ed,by rw[le.blk _ (hl 3 (by omega))];exact h.ef,h.dr.mono le,h.dd.mono le,h.df.mono le,λb y e=>by rw[le.fr];exact h.fr b y e,h.ne⟩
theorem ji.step(h:ji x deep Hs E c Wg rv dv fv T M E1 V1 a1)(hk:Kept E1 E2 V1 V2 a1 a2)(ai:At E2 V2 ⟨T',Hs++(dp x deep c++M')⟩ a2 35):ji x deep Hs E c Wg rv dv fv T' M' E2 V2 a2:=h.Hz hk.le hk.defers hk.deaf ai
theorem ji.to(T':List (Nat×AV))(M':List aa)(h:ji x deep Hs E c Wg rv dv fv T M E1 V1 a1){cd:T6}{Q:Ex->Act->View->Prop}(hw:aQ true SA none 35 cd ⟨T,Hs++(dp x deep c++M)⟩ (λe s'=>match e with|.normal=>s'.Sub ⟨T',Hs++(dp x deep c++M')⟩|_=>False))
  (hQ:∀E2 V2 a2,Kept E1 E2 V1 V2 a1 a2->ji x deep Hs E c Wg rv dv fv T' M' E2 V2 a2->Q .normal a2 V2):WP true SA none cd Q a1 V1:=
 y9 ⟨T',Hs++(dp x deep c++M')⟩ h.ai hw λE2 V2 a2 hk ai=>hQ E2 V2 a2 hk (h.step hk ai)
theorem ji.cut(h:ji x deep Hs E c Wg rv dv fv T (M++G) E1 V1 a1)(hE:E.n<=Hs.length)(hT:∀p∈T',∃b,look T p.1=some b/\Wk b p.2/\Lt (Hs.length+5+M.length) p.2)(ay:bH (Hs++(dp x deep c++M))):ji x deep Hs E c Wg rv dv fv T' M {E1 with n:=Hs.length+5+M.length} V1 a1:=by
 have hlen:(Hs++(dp x deep c++M)).length=Hs.length+5+M.length:=by simp[dp];omega
 have hc:=h.ai.cut (s':=⟨T',Hs++(dp x deep c++M)⟩) ⟨λt a e=>by
  obtain⟨b,h1,h2,h3⟩:=hT _ (ow e);exact⟨b,h1,h2,by rw[hlen];exact h3⟩,⟨G,by simp⟩,ay⟩
 simp only[hlen]at hc;exact⟨hc,h.lo.cut (by omega),h.main,h.defers,h.deaf,h.er,h.ed,h.ef,h.dr.trim (by rw[yi];exact GJ x _),h.dd.trim (by simp[yi,eC]),h.df.trim (by simp[yi,eC]),h.fr,h.ne⟩
theorem aay(hH:bH Hs)(hM:∀z∈M,eK (Hs.length+5+M.length) z):bH (Hs++(dp x deep c++M)):=by
 intro y hy;have hlen:(Hs++(dp x deep c++M)).length=Hs.length+5+M.length:=by simp[dp];omega
 rw[hlen];rcases SS.1 hy with h|h
 ·exact(hH y h).mono (by omega)
 ·rcases SS.1 h with h|h
  ·simp only[dp,SK,SZ,or_false]at h;rcases h with rfl|rfl|rfl|rfl|rfl
   ·exactλa ha=>GJ x _ a ha
   ·intro a ha;simp at ha;subst ha;exact .val _
   ·intro a ha;simp only[jg,SK,SS,Xw]at ha;rcases ha with rfl|rfl|⟨_,rfl⟩|⟨_,rfl⟩<;>exact .val _
   ·intro a ha;simp at ha;subst ha;exact .val _
   ·trivial
  ·exact hM y h
end
def oD (x:ak)(deep:Int)(i:Nat):List (List Spec):=(SV i).map λk=>[qz x deep k]
theorem Nt(x:ak)(deep:Int)(i:Nat):(oD x deep i).length=i:=by simp[oD]
theorem aqg(x:ak)(deep:Int)(i:Nat):oD x deep (i+1)=oD x deep i++[[qz x deep i]]:=by simp[oD,Vk]
def wX (x:ak):Prop:=∀bk,bk<=3->∀h∈kq x bk,mm h/\∀ns∈fP x h,∀a∈(ij x h ns).map (dx h ns),jj x a
noncomputable def jn (Hs:List aa)(Wg:Nat)(n:Int)(i:Nat):List (Nat×AV):=[(16,iv i),(15,iv n),(6,.val (pW Wg 0)),(5,.op (Hs.length+3) 0),(4,.op (Hs.length+2) 0),(3,.op (Hs.length+1) 0),(2,.op Hs.length 0)]
structure ve (x:ak)(deep:Int)(Hs:List aa)(E:Env)(c Wg:Nat)(rv dv fv:SO)(i:Nat)(T:List (Nat×AV))(M:List aa)(E':Env)(V':View)(a':Act):Prop where
 ok:ji x deep Hs E c Wg rv dv fv T M E' V' a'
 role:V'.role=.fork c Wg (oD x deep i)
 EW:E'.fr c=some sA
 BX:E'.fr Wg=some (wgBlock SA ((i:Int)* 4294967296) 0)
section
variable {x:ak}{deep n:Int}{Hs:List aa}{E:Env}{c Wg i:Nat}{rv dv fv:SO}{T T':List (Nat×AV)}{M M':List aa}{E1 E2:Env}{V1 V2:View}{a1 a2:Act}
theorem ve.step(h:ve x deep Hs E c Wg rv dv fv i T M E1 V1 a1)(hk:Kept E1 E2 V1 V2 a1 a2)(hc:ji x deep Hs E c Wg rv dv fv T' M' E2 V2 a2):ve x deep Hs E c Wg rv dv fv i T' M' E2 V2 a2:=
 ⟨hc,hk.role.trans h.role,by rw[hk.le.fr];exact h.EW,by rw[hk.le.fr];exact h.BX⟩
theorem alU(hx:x.Ok)(hA:wX x)(zB:E.n<=Hs.length)(ay:bH (Hs++(dp x deep c++[])))(h:ve x deep Hs E c Wg rv dv fv i (jn Hs Wg n i) [] E1 V1 a1)(hi:i<=3){cd:T6}{Q:Ex->Act->View->Prop}(hcd:cd=cs (cs (ci (ci (cs (cf l_))))))
  (hQ:∀E2 V2 a2,ve x deep Hs E c Wg rv dv fv (i+1) (jn Hs Wg n (i+1)) [] E2 V2 a2->Q .normal a2 V2):WP true SA none cd Q a1 V1:=by
 subst hcd;refine wp_seq (wp_block (wp_seq ?_));refine h.ok.to ((7,.op (Hs.length+5) 0)::jn Hs Wg n i) [.cells [iv i] 3] ?_ λE2 V2 a2 cD cL=> ?_
 ·unfold jn dp;refine am ?_;exact eo (by simp only[seval];simp[bC,Wk.refl]) rfl
 have h2:=h.step cD cL;obtain⟨V3,g3,o3,r3,d3,GC,IM,Pp⟩:=cL.ai.bt.He (id:=Hs.length+5) (by rw[ba];rfl) 1 (by simp);rw[dJ]at IM;have KQ:Kept E2 {E2 with I:=V3.ah} V2 V3 a2 a2:=⟨GC,rfl,rfl,r3,d3⟩;have dO:=cL.step (T':=(7,.op (Hs.length+5) 0)::jn Hs Wg n i) (M':=[.part 1 [iv i] 3]) KQ ⟨IM,cL.ai.tok.mono GC,cL.ai.size⟩;have h3:=h2.step KQ dO;refine WP.ghost g3 ?_;generalize{E2 with I:=V3.ah}=E3 at GC IM Pp KQ dO h3;have e6:a2.eval (.tmp 6)=pW Wg 0:=ub (dO.ai.tok 6 (.val (pW Wg 0)) rfl).2;obtain⟨w1,w2,w3⟩:=dO.ai.bt.fr Wg _ h3.BX;have hrc:V3.role.chan≠some Wg:=by rw[h3.role];intro e;cases e;exact dO.ne rfl
 refine wp_seq (ady rfl rfl (anF rfl rfl (by kernel_rfl) ?_));have cJ:(#[as_ 6,atV (.int .i64 1)]:Array Ti).map a2.eval=#[pW Wg 0,.int .i64 1]:=by
  simp only[List.map_toArray,UW,List.map_nil,e6];rfl
 rw[cJ];refine(aeE (n:=i) (sm:=NP SA) (by omega) w1 w2 hrc dO.deaf).mono λo V4 hV=> ?_;obtain⟨rfl,rfl⟩:=hV;dsimp only;refine ar7 ?_;let wJ:Obj:=wgBlock SA (((i+1:Nat):Int)* 4294967296) 0;show WP true SA none _ _ (a2.put (some 19) (.tuple #[])) (V3.upd Wg wJ);have sB:=dO.ai.bt.ai0 h3.BX wJ;let f4:Nat->Option Obj:=λb'=>if b'=Wg then some wJ else E3.fr b';have lV:ji x deep Hs E c Wg rv dv fv ((7,.op (Hs.length+5) 0)::jn Hs Wg n i) [.part 1 [iv i] 3] (E3.frame f4) (V3.upd Wg wJ) (a2.put (some 19) (.tuple #[])):=by
  refine⟨⟨sB,λt av e=> ?_,(dU a2 (some 19) _).trans dO.ai.size⟩,dO.lo.trans (Env.GG E3 f4),dO.main,(put_defers a2 _ _).trans dO.defers,dO.deaf,dO.er,dO.ed,dO.ef,dO.dr.frame f4,dO.dd.frame f4,dO.df.frame f4,λb y e=> ?_,dO.ne⟩
  ·have aI:t≠19:=by
    intro et;subst et;simp[jn,look]at e
   have:=((dO.ai.tok.frame f4).put (d:=19) (a:=.aN []) (v:=.tuple #[]) (by rw[dO.ai.size];omega) (.aN rfl (by simp))) t av (by simp only[look];rw[if_neg (Ne.symm aI)];exact e);exact this
  ·obtain⟨q1,q2,q3⟩:=dO.fr b y e;exact⟨by show (if b=Wg then _ else _)=_;rw[if_neg q3];exact q1,q2,q3⟩
 have PB:aq (E3.frame f4) (.rp [iv i]) (.pointer (some ⟨(E3.frame f4).blk (Hs.length+5),0,none⟩)):=by
  have hl:Hs.length+5<E2.n:=by rw[cL.ai.bt.n];simp[dp]
  have e:(E3.frame f4).blk (Hs.length+5)=E2.blk (Hs.length+5):=GC.blk _ hl;rw[e];exact Pp.frame f4
 have Hk:(V3.upd Wg wJ).role=.fork c Wg (oD x deep i):=h3.role;have Qs:(E3.frame f4).fr c=some sA:=by
  show (if c=Wg then _ else _)=_;rw[if_neg dO.ne];exact h3.EW
 have Qt:(E3.frame f4).fr Wg=some wJ:=by
  show (if Wg=Wg then _ else _)=_;rw[if_pos rfl]
 generalize E3.frame f4=E4 at lV PB Qs Qt;generalize V3.upd Wg wJ=V4 at lV Hk;generalize a2.put (some 19) (.tuple #[])=a4 at lV;clear sB;refine HP (K:=λs'=>look s'.T 20=some (.fn (.func 97) [] [.val (pW Wg 0),.op Hs.length 0,.op (Hs.length+5) 0,.op (Hs.length+1) 0,.op (Hs.length+3) 0])/\s'.Sub ⟨jn Hs Wg n i,Hs++(dp x deep c++[.part 1 [iv i] 3])⟩) 1 1 rfl (by kernel_rfl) lV.ai ?_ λE5 V5 a5 s5 f_ jU hK=> ?_
 ·unfold jn dp;(try simp only[seval,Ua,UC,Uj,TN]);exact eo (by simp only[seval];simp[bC,Wk.refl]) rfl
 obtain⟨l20,lD⟩:=hK;have Fu:=jU.sub lD;have cr:=lV.step f_ Fu;have Du:V5.role=.fork c Wg (oD x deep i):=f_.role.trans Hk;have vG:E5.fr c=some sA:=by rw[f_.le.fr];exact Qs
 have BY:E5.fr Wg=some wJ:=by rw[f_.le.fr];exact Qt
 have dk5:=PB.mono f_.le;have p9:Hs.length+5<E4.n:=by rw[lV.ai.bt.n];simp[dp]
 refine NW rfl rfl ?_;obtain⟨c1,c2,c3⟩:=cr.ai.bt.fr c _ vG;obtain⟨v1,v2,v3⟩:=cr.ai.bt.fr Wg _ BY;have e20:a5.eval (.tmp 20)=.func (.func 97) #[] #[pW Wg 0,rv,.pointer (some ⟨E5.blk (Hs.length+5),0,none⟩),dv,fv]:=by
  obtain⟨fa,ca,q1,q2,q3⟩:=Pt (jU.tok 20 _ l20).2;rw[EI q2]at q1;refine q1.trans ?_;have Lj:ca.size=5:=q3.1;have k0:=ub (q3.2 0 _ rfl);have k1:=BN (q3.2 1 _ rfl);have k2:=BN (q3.2 2 _ rfl);have k3:=BN (q3.2 3 _ rfl);have k4:=BN (q3.2 4 _ rfl);rw[<- cr.er]at k1;rw[<- cr.ed]at k3;rw[<- cr.ef]at k4;congr 1;refine Array.ext Lj λj h1 h2=> ?_;have hj:j=0\/j=1\/j=2\/j=3\/j=4:=by omega
  rw[SH,SJ (by omega)]at k0 k1 k2 k3 k4;rcases hj with rfl|rfl|rfl|rfl|rfl
  ·exact k0
  ·exact k1
  ·exact k2
  ·exact k3
  ·exact k4
 refine⟨rfl,.tmp 20,97,#[],_,rfl,e20,cr.deaf,.inl ⟨c,Wg,oD x deep i,qz x deep i,[],Du,c1,?_,?_,v2,λJ0 C=> ?_,?_⟩⟩
 ·rw[v1,Nt]
 ·rw[Nt];omega
 ·have hb:E5.blk (Hs.length+5)=E4.blk (Hs.length+5):=f_.le.blk _ p9;rw[hb];have:=ar3 (J:=J0) (V:={ah:=V5.ah,own:=λ_=>none,deaf:=0,role:=.work c Wg [qz x deep i]}) C hx hi (hA i hi) (agk cr.ai.bt.I rfl rfl) (cr.dr.bare (amM x)) (dk5.bare (by simp[yi,eC])) (cr.dd.bare (by simp[yi,eC])) (cr.df.bare (by simp[yi,eC])) rfl rfl;simpa using this
 let V6:View:={V5 with role:=.fork c Wg (oD x deep i++[[qz x deep i]])};have IN:Conc (E5.frame E5.fr) V6 (Hs++(dp x deep c++[.part 1 [iv i] 3])):=by
  refine cr.ai.bt.yu (V':=V6) _ rfl (λ_ _ _ _ _ _ h=>h) (λg hg=> ?_) (λg hg=> ?_) (λhm=>by rw[cr.main]at hm;cases hm) cr.ai.bt.fr
  ·cases hg;exact⟨by show V5.own Wg≠none;rw[v1];simp,v2,v3⟩
  ·cases hg;exact⟨by show V5.own c≠none;rw[c1];simp,c2,c3⟩
 have oe:ji x deep Hs E c Wg rv dv fv (jn Hs Wg n i) [.part 1 [iv i] 3] E5 V6 (a5.put none undef):=⟨⟨IN,cr.ai.tok,cr.ai.size⟩,cr.lo,cr.main,cr.defers,cr.deaf,cr.er,cr.ed,cr.ef,cr.dr,cr.dd,cr.df,cr.fr,cr.ne⟩;show WP true SA none _ _ (a5.put none undef) V6;refine oe.to (jn Hs Wg n (i+1)) [.part 1 [iv i] 3] ?_ λE7 V7 a7 oo Ck=> ?_
 ·unfold jn dp;have hw:SD.wrap ((i:Int)+1)=(i:Int)+1:=bB _ (by omega);refine aj ?_;simp only[seval,hw];exact eo (by simp only[seval];simp[bC,Wk.refl]) rfl
 have fy:=ji.cut (M:=[]) (T':=jn Hs Wg n (i+1)) Ck zB (by
  unfold jn;simp only[Xe,SZ,false_imp_iff,implies_true,and_true,look,Zv,if_false,if_true,Tj,exists_eq_left',Wk.refl,true_and,eC,aaP,UR];omega) ay
 refine hQ _ V7 a7 ⟨fy,?_,?_,?_⟩
 ·rw[oo.role,aqg]
 ·show E7.fr c=_;rw[oo.le.fr];exact vG
 ·show E7.fr Wg=_;rw[oo.le.fr];exact BY
end
namespace Tk
theorem abL{hs:List (List Int)}{h:List Int}(hn:hs.Nodup):(jy hs h).Nodup:=by
 unfold jy;split
 ·exact hn
 ·rename_i hm;rw[U7];exact⟨hn,by simp,λa ha b hb=>by rw[S8.1 hb];exactλe=>hm (e▸ha)⟩
theorem aq6{x:ak}{deep:Int}{Q:Kn}{t:List Int}(hn:Q.aK.Nodup):(ey x deep Q t).aK.Nodup:=by
 have hB:(jD Q t).aK.Nodup:=by unfold jD;split<;>exact hn
 unfold ey;dsimp only;generalize jD Q t=R at hB;split
 ·exact hB
 ·split
  ·exact abL hB
  ·exact hB
theorem ar1{x:ak}{deep:Int}{bk:Nat}:(gG x deep bk).aK.Nodup:=by
 unfold gG;have key:∀(ts:List (List Int))(Q:Kn),Q.aK.Nodup->(ts.foldl (ey x deep) Q).aK.Nodup:=by
  intro ts;induction ts with
  |nil=>exactλQ h=>h
  |cons t ts ih=>exactλQ h=>ih _ (aq6 h)
 exact key _ _ WI
theorem Qh:∀{l hs:List (List Int)},(∀y∈hs,y.length=4)->(∀y∈l,y.length=4)->∀y∈l.foldl jy hs,y.length=4
 |[],hs,h1,_=>h1
 |a::l,hs,h1,h2=>by rw[UY];exact Qh (abJ h1 (h2 a (by simp))) (λy hy=>h2 y (by simp[hy]))
theorem G0{l m:List Nat}(h:l.length=m.length):(lJ l m).length=l.length:=by simp[lJ,h]
theorem G3{l m:List Nat}(h1:∀n∈l,n<65536)(h2:∀n∈m,n<65536):∀n∈lJ l m,n<65536:=λn hn=>by
 unfold lJ at hn;rw[UQ]at hn;obtain⟨i,hi⟩:=hn;rw[List.getElem?_zipWith]at hi;cases ha:l[i]?with
 |none=>rw[ha]at hi;cases hi
 |some a=>
  cases hb:m[i]?with
  |none=>rw[ha,hb]at hi;cases hi
  |some b=>
   rw[ha,hb]at hi;cases hi;exact pw (h1 _ (Tc ha)) (h2 _ (Tc hb))
theorem aap{F G:Kn}{hs:List (List Int)}(hF:bJ F)(hG:bJ G)(hp:hs.Perm G.aK):bJ (gQ F hs G):=by
 unfold gQ;split
 ·refine⟨(G0 (by rw[hF.aB,hG.aB])).trans hF.aB,(G0 (by rw[hF.hours,hG.hours])).trans hF.hours,(G0 (by rw[hF.less,hG.less])).trans hF.less,(G0 (by rw[hF.aV,hG.aV])).trans hF.aV,?_,G3 hF.mc hG.mc,G3 hF.mz hG.mz,G3 hF.mG hG.mG,G3 hF.lK hG.lK,Qh hF.h4 λy hy=>hG.h4 y (hp.mem_iff.1 hy)⟩;split
  ·exact hG.first
  ·exact hF.first
 ·exact hF
inductive nO (x:ak)(deep:Int):List Nat->Kn->Prop where
 |nil:nO x deep [] Kn.zero
 |snoc {js:List Nat} {F:Kn} {j:Nat} {hs:List (List Int)} (h:nO x deep js F) (hp:hs.Perm (gG x deep j).aK):nO x deep (js++[j]) (gQ F hs (gG x deep j))
end Tk
theorem wX.work{x:ak}{deep:Int}{j:Nat}(hA:wX x)(hx:x.Ok)(hj:j<=3):bJ (gG x deep j):=NS hx (hA j hj)
def mJ (x:ak)(deep:Int)(n:Nat)(js:List Nat):List (List Spec):=(SV n).map λk=>if k∈js then[]else[qz x deep k]
theorem aqj(x:ak)(deep:Int)(n:Nat):mJ x deep n []=oD x deep n:=by simp[mJ,oD]
theorem aqi{x:ak}{deep:Int}{n j:Nat}{js:List Nat}{sp:Spec}{S:List Spec}(h:(mJ x deep n js)[j]?=some (sp::S)):j<n/\j∉js/\sp=qz x deep j/\S=[]:=by
 unfold mJ at h;rw[Tm]at h;obtain⟨k,h1,h2⟩:=Tp.1 h;have hk:j<n/\k=j:=by
  have:=SL.1 h1;obtain⟨h3,h4⟩:=this;simp at h3 h4;exact⟨h3,h4.symm⟩
 obtain⟨h3,rfl⟩:=hk;split at h2
 ·cases h2
 ·rename_i hm;cases h2;exact⟨h3,hm,rfl,rfl⟩
theorem aqk{x:ak}{deep:Int}{n j:Nat}{js:List Nat}:(mJ x deep n js).set j []=mJ x deep n (js++[j]):=by
 apply Yo;intro k;unfold mJ;rw[UM,Tm,Tm,Tn,List.length_range];by_cases hk:k<n
 ·rw[Xx hk];by_cases hj:j=k
  ·subst hj;rw[if_pos rfl,if_pos hk];simp
  ·rw[if_neg hj];have e:(k∈js++[j])<->k∈js:=by
    rw[SS,S8];exact⟨λh=>h.elim id λe=>absurd e.symm hj,.inl⟩
   simp only[UP,e]
 ·have e:(SV n)[k]?=none:=Uv (by simp;omega);rw[e];by_cases hj:j=k
  ·subst hj;rw[if_pos rfl,if_neg hk];rfl
  ·rw[if_neg hj];rfl
theorem aqh{x:ak}{deep:Int}{n:Nat}{js:List Nat}(h:∀S∈mJ x deep n js,S=[]):∀k,k<n->k∈js:=λk hk=>by
 apply Tt;intro hn;have:=h [qz x deep k] (Tl.2 ⟨k,by simpa using hk,by rw[if_neg hn]⟩);cases this
theorem alS{E:Env}{K:Kn}{mp b:Nat}(hb:E.blk mp=b)(hm:mp<E.n):aq E (.agg (K.l mp)) (.agg (rK K b).toArray):=by
 subst hb;refine .agg (by simp[Kn.l,rK]) λi a e=> ?_
 match i with
 |0=>cases e;exact .val _
 |1=>cases e;exact .mp hm
 |i+2=>
  have e':(K.l mp)[i+2]?=((K.aB.map (λn:Nat=>SF .u16 n)++(K.hours.map (λn:Nat=>SF .u16 n)++(K.less.map (λn:Nat=>SF .u16 n)++(K.aV.map (λn:Nat=>SF .u16 n)++K.first.map (SF .i64))))).map AV.val)[i]?:=by
   simp[Kn.l,wv,iv,Yy]
  rw[e',Tm]at e;obtain⟨z,h1,rfl⟩:=Tp.1 e;have h2:(rK K (E.blk mp))[i+2]?=some z:=h1;rw[SH,Vf,h2];exact .val _
theorem uN(K:Kn)(mp:Nat):∀a∈K.l mp,a.leaf=true:=λa ha=>by
 simp only[Kn.l,SK,SS,Tl]at ha;rcases ha with rfl|rfl|⟨_,_,rfl⟩|⟨_,_,rfl⟩|⟨_,_,rfl⟩|⟨_,_,rfl⟩|⟨_,_,rfl⟩<;>rfl
theorem afp{lv:Bool}{P:SI}{r:Option Nat}{nt:Nat}{E:Env}{V:View}{a:Act}{s:AS}{c:T6}{Q:Ex->Act->View->Prop}{α:Type}(p:α->Prop)(S3:α->AS)(ai:At E V s a nt)(h:aQ lv P r nt c s (λe s'=>match e with|.normal=>∃q,p q/\s'.Sub (S3 q)|_=>False))(hQ:∀q E' V' a',p q->Kept E E' V V' a a'->At E' V' (S3 q) a' nt->Q .normal a' V'):WP lv P r c Q a V:=
 h E V a Q ai λae e E' V' a' s' hk aU he hΦ=>by
  cases ae<;>cases e<;>first
   |exact he.elim
   |exact hΦ.elim
   |(obtain⟨q,h1,h2⟩:=hΦ
     exact hQ q E' V' a' h1 hk (aU.sub h2))
theorem agy{E:Env}(l:List SO):aq E (.agg (l.map .val)) (.agg l.toArray):=by
 refine .agg (by simp) λi a e=> ?_;rw[Tm]at e;obtain⟨z,h1,rfl⟩:=Tp.1 e;rw[SH,Vf,h1];exact .val _
def N5:List SO:=.bool false:: .map none::(TF 15 (.int .u16 0)++TF 11 (.int .i64 0))
def ig (Hs:List aa)(F:Kn):List aa:=[setH F.aK,.cells (F.l (Hs.length+5)) 88]
noncomputable def jd (Hs:List aa):List (Nat×AV):=[(8,.op (Hs.length+6) 0),(5,.op (Hs.length+3) 0),(4,.op (Hs.length+2) 0)]
structure Eh (x:ak)(deep:Int)(n:Nat)(Hs:List aa)(E:Env)(c Wg:Nat)(rv dv fv:SO)(js:List Nat)(F:Kn)(T:List (Nat×AV))(G:List aa)(E':Env)(V':View)(a':Act):Prop where
 ok:ji x deep Hs E c Wg rv dv fv T (ig Hs F++G) E' V' a'
 role:V'.role=.recv c Wg (mJ x deep n js)
 aaq:nO x deep js F
 kn:bJ F
 nodup:js.Nodup
 lt:∀j∈js,j<n
noncomputable def aax:T6:=ci (ci (cs (cs (cs l_))))
theorem alT{x:ak}{deep:Int}{Hs:List aa}{c:Nat}{F:Kn}(hH:bH Hs):bH (Hs++(dp x deep c++ig Hs F)):=by
 refine aay hH λz hz=> ?_;simp only[ig,SK,SZ,or_false]at hz;rcases hz with rfl|rfl
 ·trivial
 ·exact yc (by simp[ig])
theorem amT{V:View}{Im:cm}{b:Nat}{K:Kn}{w:To}(hS:Sat V w)(hI:∀b o x,Im b o=some x->w.cell? ⟨b,o,none⟩=some x)(hb:w.heap[b]?=some (rJ K)):∀o,V.ah b o=none/\Im b o=none:=λo=>by
 have hc:w.cell? ⟨b,o,none⟩=none:=by simp[UA,hb,rJ]
 constructor
 ·cases h:V.ah b o with
  |none=>rfl
  |some v=>have:=hS.ah b o v h;rw[hc]at this;cases this
 ·cases h:Im b o with
  |none=>rfl
  |some v=>have:=hI b o v h;rw[hc]at this;cases this
section
variable {x:ak}{deep:Int}{n:Nat}{Hs:List aa}{E:Env}{c Wg:Nat}{js:List Nat}{D:Kn}{rv dv fv:SO}{T T':List (Nat×AV)}{G G':List aa}{E1 E2:Env}{V1 V2:View}{a1 a2:Act}
theorem alV(hx:x.Ok)(hA:wX x)(R6:n<=4)(zB:E.n<=Hs.length)(cq:bH Hs)(h:Eh x deep n Hs E c Wg rv dv fv js D (jd Hs) [] E1 V1 a1){Q:Ex->Act->View->Prop}
  (hQ:∀j D' E2 V2 a2,j∉js->Eh x deep n Hs E c Wg rv dv fv (js++[j]) D' (jd Hs) [] E2 V2 a2->Q .normal a2 V2)
  (Fo:∀E2 V2 a2 G,At E2 V2 ⟨[(4,.op (Hs.length+2) 0)],Hs++([.part 6 x.l 76,.part 1 [iv deep] 3,.cells (D.l (Hs.length+5)) 88,.part 1 [.val (.chan (some c))] 139,.gone,setH D.aK]++G)⟩ a2 35->E.Lo E2->a2.defers=[]->V2.deaf=0->V2.role=.plain->(∀b y,E.fr b=some y->E2.fr b=some y)->(∀k,k<n->k∈js)->Q .ret a2 V2):WP true SA none aax Q a1 V1:=by
 refine wp_block (id:=3) (wp_seq ?_);refine HP (K:=λs'=>look s'.T 26=some (.val (.chan (some c)))/\s'.Sub ⟨jd Hs,Hs++(dp x deep c++(ig Hs D++[]))⟩) 1 7 rfl (by kernel_rfl) h.ok.ai ?_ λE3 V3 a3 s3 v4 pU hK=> ?_
 ·unfold jd dp ig;(try simp only[seval]);exact eo (by simp only[seval];simp[bC,Wk.refl]) rfl
 obtain⟨l26,lD⟩:=hK;have dO:=h.ok.step v4 (pU.sub lD);have ro3:V3.role=.recv c Wg (mJ x deep n js):=v4.role.trans h.role;have e26:a3.eval (.tmp 26)=.chan (some c):=ub (pU.tok 26 _ l26).2;obtain⟨ti,v_,hzi⟩:=Te.1 F.Oh;refine ar6 rfl rfl (.inr ?_);refine⟨rfl,c,Wg,mJ x deep n js,.both,88,ti,_,e26,by kernel_rfl,v_,hzi,ro3,dO.deaf,λj sp S v Im Ow r1 r2 r3 r4 r5=> ?_,λhS=> ?_⟩
 ·
  obtain⟨oZ,iy,rfl,rfl⟩:=aqi r1;obtain⟨b,hv,JY⟩:=r2;have xx:bJ (gG x deep j):=hA.work hx (by omega);have QU:(gG x deep j).aK.Nodup:=ar1;obtain⟨W,hW⟩:∃W,W=gG x deep j:=⟨_,rfl⟩;rw[<- hW]at hv JY xx QU;let pG:View:={V3 with ah:=λb o=>match V3.ah b o with|some x=>some x|none=>Im b o,role:=.recv c Wg ((mJ x deep n js).set j [])};obtain⟨aaB,Pg⟩:=dO.ai.bt.amk (V':=pG) rfl (λb o v e=>by show (match V3.ah b o with|some x=>some x|none=>Im b o)=some v;rw[e]) (λb o hb e=>by
   show (match V3.ah b o with|some x=>some x|none=>Im b o)=none;rw[e];apply Tt;intro aI;exact absurd e (r4 b o hb aI)) rfl rfl (λhm=>by rw[dO.main]at hm;cases hm)
  have JX:Ow b=some (rJ W):=by rw[JY];simp
  obtain⟨w,hSw,hIw,hww⟩:=r5;have jo:=amT hSw hIw (hww b _ JX);have ej:V3.own b=none:=by
   apply Tt;intro aI;have:=r3 b aI;rw[JX]at this;cases this
  have Kw:pG.fresh b:=⟨ej,λo=>by
   show (match V3.ah b o with|some x=>some x|none=>Im b o)=none;rw[(jo o).1];exact(jo o).2⟩
  have akm:E3.n=Hs.length+7:=by rw[dO.ai.bt.n];simp[dp,ig]
  have sB:=Pg.add Kw (rJ W) (x:=.obj (rJ W)) ⟨by rw[Env.dK];simp[View.upd],rfl,rfl,λo=>by rw[Env.dK];exact Kw.2 o⟩ (λb' e=>by
   simp only[bL,Env.dK,Tj]at e;exact e.symm)
  have QR:pG.upd b (rJ W)={V3 with ah:=λb o=>match V3.ah b o with|some x=>some x|none=>Im b o,own:=λb=>match V3.own b with|some x=>some x|none=>Ow b,role:=.recv c Wg ((mJ x deep n js).set j [])}:=by
   have:(λb'=>if b'=b then some (rJ W)else V3.own b')=λb=>match V3.own b with|some x=>some x|none=>Ow b:=by
    funext b';by_cases hb:b'=b
    ·subst hb;rw[if_pos rfl,ej,JX]
    ·rw[if_neg hb];cases dD:V3.own b' with
     |some y=>rfl
     |none=>simp[JY,hb]
   show View.mk _ _ _ _=View.mk _ _ _ _;congr 1
  have QI:(({E3 with I:=pG.ah}:Env).add b pG.ah).blk (Hs.length+7)=b:=by rw[<- akm];exact Env.dK ({E3 with I:=pG.ah}:Env) b _
  have Mj:E3.Le (({E3 with I:=pG.ah}:Env).add b pG.ah):=aaB.trans (Env.qq _ b λ_ _ _ e=>e);have aks:(({E3 with I:=pG.ah}:Env).add b pG.ah).n=Hs.length+8:=by show E3.n+1=_;omega
  rw[QR]at sB;generalize hE4:(({E3 with I:=pG.ah}:Env).add b pG.ah)=E4 at sB QI Mj aks;have bp:aq E4 (.aN [.agg (W.l (Hs.length+7)),bv true]) (.tuple #[v,.bool true]):=by
   subst hv;refine .aN rfl λq a e=> ?_
   match q,e with
   |0,e=>cases e;exact alS QI (by omega)
   |1,e=>cases e;exact .val _
  have ajt:Hs++(dp x deep c++(ig Hs D++[]))++[aa.obj (rJ W)]=Hs++(dp x deep c++(ig Hs D++[setH W.aK])):=by simp[setH,rJ]
  rw[ajt]at sB;clear QR hE4 Pg aaB Kw;generalize QS:({V3 with ah:=λb o=>match V3.ah b o with|some x=>some x|none=>Im b o,own:=λb=>match V3.own b with|some x=>some x|none=>Ow b,role:=.recv c Wg ((mJ x deep n js).set j [])}:View)=V4 at sB;have Hk:V4.role=.recv c Wg (mJ x deep n (js++[j])):=by rw[<- QS];show mN.recv c Wg _=_;rw[aqk]
  have de4:V4.deaf=V3.deaf:=by rw[<- QS]
  have rf:At E4 V4 ⟨(27,.aN [.agg (W.l (Hs.length+7)),bv true])::jd Hs,Hs++(dp x deep c++(ig Hs D++[setH W.aK]))⟩ (a3.put (some 27) (.tuple #[v,.bool true])) 35:=⟨sB,(dO.ai.tok.mono Mj).put (by rw[dO.ai.size];omega) bp,(dU a3 (some 27) _).trans dO.ai.size⟩;have lV:ji x deep Hs E c Wg rv dv fv ((27,.aN [.agg (W.l (Hs.length+7)),bv true])::jd Hs) (ig Hs D++[setH W.aK]) E4 V4 (a3.put (some 27) (.tuple #[v,.bool true])):=
   dO.Hz Mj (put_defers a3 _ _) de4 rf
  have Fp:=Kn.len xx (Hs.length+7);refine NX ⟨(10,bv true)::(9,.op (Hs.length+8) 0)::jd Hs,Hs++(dp x deep c++(ig Hs D++[setH W.aK,.cells (W.l (Hs.length+7)) 88]))⟩ rfl (by kernel_rfl) rf ?_ λE5 V5 a5 f_ jU=> ?_
  ·unfold jd dp ig;(try simp only[seval,Fp]);exact⟨uN _ _,eo (by simp only[seval];simp[bC,Wk.refl]) rfl⟩
  have cr:=lV.step f_ jU;have Du:V5.role=.recv c Wg (mJ x deep n (js++[j])):=f_.role.trans Hk;refine wp_seq (wp_seq ?_);refine cr.to ((31,bv false)::(9,.op (Hs.length+8) 0)::jd Hs) (ig Hs D++[setH W.aK,.cells (W.l (Hs.length+7)) 88]) ?_ λE6 V6 a6 p8 oe=> ?_
  ·unfold jd dp ig;refine am ?_;exact eo (by simp only[seval];simp[bC,Wk.refl]) rfl
  refine NT oe.ai rfl ?_;refine wp_skip ?_;refine afp (λhs:List (List Int)=>hs.Perm W.aK) (λhs=>⟨jd Hs,Hs++(dp x deep c++(ig Hs (gQ D hs W)++[setH W.aK,.cells (W.l (Hs.length+7)) 88]))⟩) oe.ai ?_ λhs E7 V7 a7 K9 oo J'=> ?_
  ·unfold jd dp ig;refine aj ?_;simp only[seval,Fp];rw[SP (i:=28) (by omega)];refine aL ((ahs (fp:=Hs.length+6) (mp:=Hs.length+5) (mg:=Hs.length+7) h.kn xx (by omega) (by omega) (by rw[ba];rfl) (by rw[ba];rfl) (by rw[ba];rfl) QU ?_));intro hs hp;rw[dJ,dJ];(try simp only[seval]);exact⟨hs,hp,eo (by simp only[seval];simp[bC,Wk.refl]) rfl⟩
  have Ck:=oe.step oo J';have fy:=ji.cut (T':=jd Hs) Ck zB (by
   unfold jd ig;simp only[Xe,SZ,false_imp_iff,implies_true,and_true,look,Zv,if_false,if_true,Tj,exists_eq_left',Wk.refl,true_and,aaP,Uk,UR];omega) (alT cq)
  have jq:nO x deep (js++[j]) (gQ D hs W):=by
   rw[hW]at K9⊢;exact h.aaq.snoc K9
  refine hQ j (gQ D hs W) _ V7 a7 iy ⟨by rw[SN];exact fy,?_,jq,aap h.kn xx K9,?_,?_⟩
  ·rw[oo.role,p8.role];exact Du
  ·rw[U7];exact⟨h.nodup,by simp,λa ha b hb=>by rw[S8.1 hb];exactλe=>iy (e▸ha)⟩
  ·intro k hk;rcases SS.1 hk with h'|h'
   ·exact h.lt k h'
   ·rw[S8.1 h'];exact oZ
 ·
  have fx:=aqh hS;let V4:View:={V3 with role:=.plain};have sB:Conc (E3.frame E3.fr) V4 (Hs++(dp x deep c++(ig Hs D++[]))):=
   dO.ai.bt.yu (V':=V4) _ rfl (λ_ _ _ _ _ _ h=>h) (λg hg=>by cases hg) (λg hg=>by cases hg) (λhm=>by rw[dO.main]at hm;cases hm) dO.ai.bt.fr
  have bp:aq E3 (.aN [.agg jg,bv false]) (.tuple #[.agg N5.toArray,.bool false]):=by
   refine .aN rfl λq a e=> ?_
   match q,e with
   |0,e=>cases e;exact agy N5
   |1,e=>cases e;exact .val _
  have rf:At E3 V4 ⟨(27,.aN [.agg jg,bv false])::jd Hs,Hs++(dp x deep c++(ig Hs D++[]))⟩ (a3.put (some 27) (.tuple #[.agg N5.toArray,.bool false])) 35:=⟨sB,dO.ai.tok.put (by rw[dO.ai.size];omega) bp,(dU a3 (some 27) _).trans dO.ai.size⟩;have lV:=dO.Hz (V2:=V4) (Env.Le.refl E3) (put_defers a3 (some 27) _) rfl rf;have kV:jg.length=28:=rfl;have fg:=Kn.len h.kn (Hs.length+5);refine NX ⟨(10,bv false)::jd Hs,Hs++(dp x deep c++(ig Hs D++[.cells jg 88]))⟩ rfl (by kernel_rfl) rf ?_ λE5 V5 a5 f_ jU=> ?_
  ·unfold jd dp ig;(try simp only[seval,kV]);exact⟨λa ha=>by simp only[jg,SK,SS,Xw]at ha;rcases ha with rfl|rfl|⟨_,rfl⟩|⟨_,rfl⟩<;>rfl,eo (by simp only[seval];simp[bC,Wk.refl]) rfl⟩
  have cr:=lV.step f_ jU;refine wp_seq (wp_seq ?_);refine cr.to ((31,bv true)::jd Hs) (ig Hs D++[.cells jg 88]) ?_ λE6 V6 a6 p8 oe=> ?_
  ·unfold jd dp ig;refine am ?_;exact eo (by simp only[seval];simp[bC,Wk.refl]) rfl
  refine NT oe.ai rfl ?_;refine wp_seq ?_;refine y9 ⟨[(4,.op (Hs.length+2) 0)],Hs++([.part 6 x.l 76,.part 1 [iv deep] 3,.cells (D.l (Hs.length+5)) 88,.part 1 [.val (.chan (some c))] 139,.gone,setH D.aK]++[.cells (D.l (Hs.length+5)) 88,.cells jg 88])⟩ oe.ai ?_ λE7 V7 a7 oo J'=> ?_
  ·unfold jd dp ig;refine aj ?_;simp only[seval,fg,kV];rw[SP (i:=28) (l:=D.l (Hs.length+5)) (by omega)];exact⟨fg,by omega,uN _ _,eo (by simp only[seval];simp[bC,Wk.refl]) (by rw[fg,TW (by rw[kV];exact SQ _),SN])⟩
  refine wp_ret ?_;exact Fo E7 V7 a7 _ J' (oe.lo.trans oo.le.lo) (oo.defers.trans oe.defers) (oo.deaf.trans oe.deaf) (oo.role.trans (p8.role.trans f_.role)) (λb y e=>by rw[oo.le.fr];exact(oe.fr b y e).1) fx
end
open Go.Conc Go.Proofs Go.Gg.Tk
theorem aph{P:SI}{rs:List UO}{fn:ZQ}{nt:Nat}{k kp:AV->List aa->Prop}{E E':Env}{V V':View}{H L G:List aa}{T:List (Nat×AV)}{a':Act}{av:AV}(hr:fn.results=rs.toArray)(ai:At E' V' ⟨T,H.map strip++(L++G)⟩ a' nt)(o0:E.Lo E')(hc:Conc E V H)(bW:V'.role=V.role)(eQ:V'.deaf=V.deaf)(hf:∀b y,E.fr b=some y->E'.fr b=some y)
  (gg:gT P ⟨T,H.map strip++(L++G)⟩ rs=some [av]) (hL:L.map strip=L) (ay:bH (H.map strip++L)) (hlt:Lt (H.length+L.length) av) (hk:k av (H++L)):∃v,aP P V' (results fn a'.tmps) (λx aS=>x=v/\aS=V') (λ_ _=>False)/\gJ E V k kp (.ret v) V':=by
 obtain⟨vs,hl,lH,xR⟩:=Hi ai rs [av] gg;obtain⟨v,rfl⟩:∃v,vs=[v]:=List.length_eq_one_iff.1 hl;have bp:aq E' av v:=lH 0 av rfl;have qh:aP P V' (results fn a'.tmps) (λx aS=>x=v/\aS=V') (λ_ _=>False):=by
  unfold results;rw[hr,XZ];refine aA ?_;refine aA (xR ?_);refine au (au ⟨?_,rfl⟩);simp
 have Ki:=ai.bt;dsimp only at Ki;rw[<- SC]at Ki;have fy:=Ki.trim (H:=H.map strip++L) (G:=G) ay;have hlen:(H.map strip++L).length=H.length+L.length:=by simp
 rw[hlen]at fy;have uz:(H++L).map strip=H.map strip++L:=by rw[TE,hL]
 rw[<- uz]at fy;refine⟨v,qh,av,((({E' with n:=H.length+L.length}:Env).e9 E.main).frame E.fr),H++L,?_,bW,eQ,?_,fy.ao8 E.main E.fr (λk e=> ?_) (λe=>by rw[bW,eQ];exact hc.top e) hf,hk⟩
 ·refine Env.Lo.le (E':={E' with n:=H.length+L.length}) ⟨o0.I,?_,o0.blk,o0.ft,o0.room⟩;show E.n<=H.length+L.length;rw[hc.n];omega
 ·exact((bp.trim hlt).e9 E.main).frame E.fr
 ·by_cases Cv:k<H.length
  ·rw[SX Cv]at e;exact hc.obj k _ e
  ·rw[S9 (by omega)]at e;have h2:(L.map strip)[k-H.length]?=some .gone:=(by rw[Tm,e];rfl);rw[hL,e]at h2;cases h2
section
variable {x:ak}{deep:Int}{Hs:List aa}{E:Env}{c Wg p:Nat}{rv dv fv:SO}{T:List (Nat×AV)}{E1:Env}{V1:View}{a1:Act}
theorem alW(hx:x.Ok)(hA:wX x)(hp:x.an=p)(zB:E.n<=Hs.length)(cq:bH Hs)(h:ve x deep Hs E c Wg rv dv fv 0 [(6,.val (pW Wg 0)),(5,.op (Hs.length+3) 0),(4,.op (Hs.length+2) 0),(3,.op (Hs.length+1) 0),(2,.op Hs.length 0)] [] E1 V1 a1){Q:Ex->Act->View->Prop}
  (hQ:∀js D E2 V2 a2 G,js.Perm (SV (p+1))->nO x deep js D->bJ D->At E2 V2 ⟨[(4,.op (Hs.length+2) 0)],Hs++([.part 6 x.l 76,.part 1 [iv deep] 3,.cells (D.l (Hs.length+5)) 88,.part 1 [.val (.chan (some c))] 139,.gone,setH D.aK]++G)⟩ a2 35->E.Lo E2->a2.defers=[]->V2.deaf=0->V2.role=.plain->(∀b y,E.fr b=some y->E2.fr b=some y)->Q .ret a2 V2):WP true SA none l_ Q a1 V1:=by
 have hp3:p<=3:=by have:=hx.an;omega
 have akE:bH (Hs++(dp x deep c++[])):=aay cq (by simp);refine wp_seq (x:=cf l_) (wp_seq (x:=cf (cf l_)) ?_);refine h.ok.to (jn Hs Wg ((p+1:Nat):Int) 0) [] ?_ λE2 V2 a2 cD cL=> ?_
 ·show aQ true SA none 35 (cf (cf l_)) _ _;unfold jn dp;have bM:x.l=[iv x.first,iv x.hours,iv x.an,dC x.seen,aT x.pieces,aT x.aC]:=rfl;have hw:SD.wrap (x.an+1)=((p+1:Nat):Int):=by rw[hp,bB _ (by omega)];rfl
  refine aj ?_;simp only[seval,bM,hw];exact eo (by simp only[seval];simp[bC,Wk.refl]) rfl
 have h2:ve x deep Hs E c Wg rv dv fv 0 (jn Hs Wg ((p+1:Nat):Int) 0) [] E2 V2 a2:=h.step cD cL;refine wp_block (id:=0) (c:=.loop (ci (ci (cs (cf l_))))) ?_;refine wp_loop (λm a' V'=>∃E' i,m=p+1-i/\i<=p+1/\ve x deep Hs E c Wg rv dv fv i (jn Hs Wg ((p+1:Nat):Int) i) [] E' V' a') (p+1) ⟨E2,0,rfl,by omega,h2⟩ λm a3 V3 hI=> ?_;obtain⟨E3,i,rfl,hi,h3⟩:=hI;refine wp_seq (x:=cf (ci (ci (cs (cf l_))))) (y:=cs (ci (ci (cs (cf l_))))) ?_;refine h3.ok.to ((17,bv (decide ((i:Int)<((p+1:Nat):Int))))::jn Hs Wg ((p+1:Nat):Int) i) [] ?_ λE4 V4 a4 kQ lV=> ?_
 ·show aQ true SA none 35 (cf (ci (ci (cs (cf l_))))) _ _;unfold jn dp;refine am ?_;exact eo (by simp only[seval];simp[bC,Wk.refl]) rfl
 have qY:=h3.step kQ lV;refine wp_seq (x:=.cond (.tmp 17) .skip (.exit 0)) (y:=cs (cs (ci (ci (cs (cf l_)))))) (NT lV.ai rfl ?_);by_cases Rw:i<p+1
 ·rw[show decide ((i:Int)<((p+1:Nat):Int))=true from decide_eq_true (by omega)];refine wp_skip ?_;have ajD:ji x deep Hs E c Wg rv dv fv (jn Hs Wg ((p+1:Nat):Int) i) [] E4 V4 a4:=lV.Hz (Env.Le.refl E4) rfl rfl (lV.ai.sub (eo (by unfold jn dp;simp only[seval];simp[bC,Wk.refl]) rfl));exact alU hx hA zB akE ⟨ajD,qY.role,qY.EW,qY.BX⟩ (by omega) rfl λE5 V5 a5 h5=>⟨p+1-(i+1),by omega,E5,i+1,rfl,by omega,h5⟩
 have du:i=p+1:=by omega
 subst du;rw[show decide ((((p+1:Nat):Int))<((p+1:Nat):Int))=false by simp];refine wp_exit ?_;refine wp_seq (x:=cf (cs l_)) (y:=cs (cs l_)) ?_;refine HP (K:=λs'=>look s'.T 22=some (.fn (.func 100) [] [.val (pW Wg 0),.op (Hs.length+3) 0])/\s'.Sub ⟨[(5,.op (Hs.length+3) 0),(4,.op (Hs.length+2) 0)],Hs++(dp x deep c++[])⟩) 1 1 rfl (by kernel_rfl) lV.ai ?_ λE5 V5 a5 s5 f_ jU hK=> ?_
 ·unfold jn dp;(try simp only[seval,Ua,UC,Uj,TN]);exact eo (by simp only[seval];simp[bC,Wk.refl]) rfl
 obtain⟨Me,lD⟩:=hK;have cr:=lV.step f_ (jU.sub lD);have Du:V5.role=.fork c Wg (oD x deep (p+1)):=f_.role.trans qY.role;have vG:E5.fr c=some sA:=by rw[f_.le.fr];exact qY.EW
 have BY:E5.fr Wg=some (wgBlock SA (((p+1:Nat):Int)* 4294967296) 0):=by rw[f_.le.fr];exact qY.BX
 obtain⟨c1,c2,c3⟩:=cr.ai.bt.fr c _ vG;obtain⟨v1,v2,v3⟩:=cr.ai.bt.fr Wg _ BY;have e22:a5.eval (.tmp 22)=.func (.func 100) #[] #[pW Wg 0,fv]:=by
  obtain⟨fa,ca,q1,q2,q3⟩:=Pt (jU.tok 22 _ Me).2;rw[EI q2]at q1;refine q1.trans ?_;have fN:ca.size=2:=q3.1;have k0:=ub (q3.2 0 _ rfl);have k1:=BN (q3.2 1 _ rfl);rw[<- cr.ef]at k1;congr 1;refine Array.ext fN λj h1 h2=> ?_;have hj:j=0\/j=1:=by omega
  rw[SH,SJ (by omega)]at k0 k1;rcases hj with rfl|rfl
  ·exact k0
  ·exact k1
 have hfc:V5.ah (E5.blk (Hs.length+3)) 0=some (.chan (some c)):=by
  have bx:=cr.df;rw[cr.ef]at bx;generalize hp:(Value.pointer (some ⟨E5.blk (Hs.length+3),0,none⟩))=pv at bx;cases bx with
  |rp b o f h1 h2=>
   cases hp;have:=h1 0 (by simp);rw[cr.ai.bt.I]at this;rw[UD]at this;rw[this,ub (h2 0 _ rfl)]
 refine NW rfl rfl ?_;refine⟨rfl,.tmp 22,100,#[],_,rfl,e22,cr.deaf,.inr ⟨c,Wg,_,Du,cr.ne,c1,?_,c2,v2,?_,?_⟩⟩
 ·rw[v1,Nt]
 ·have:=agh Wg (E5.blk (Hs.length+3)) c (Im:=V5.ah) hfc;rw[cr.ef];simpa[pW]using this
 let V6:View:={V5 with own:=λb=>if b=c\/b=Wg then none else V5.own b,role:=.recv c Wg (oD x deep (p+1))};let f6:Nat->Option Obj:=λb=>if b=c\/b=Wg then none else E5.fr b;have IN:Conc (E5.frame f6) V6 (Hs++(dp x deep c++[])):=by
  refine cr.ai.bt.yu (V':=V6) _ rfl (λb z k w hk ki hz=> ?_) (λg hg=>by cases hg) (λg hg=>by cases hg) (λhm=>by rw[cr.main]at hm;cases hm) (λb y hb=> ?_)
  ·have n1:b≠c:=cr.ai.bt.Di vG hk ki;have n2:b≠Wg:=cr.ai.bt.Di BY hk ki;show (if b=c\/b=Wg then none else V5.own b)=some z;rw[if_neg (λe=>e.elim n1 n2)];exact hz
  ·by_cases zI:b=c\/b=Wg
   ·simp only[f6,if_pos zI]at hb;cases hb
   ·simp only[f6,if_neg zI]at hb;obtain⟨q1,q2,q3⟩:=cr.ai.bt.fr b y hb;refine⟨?_,q2,q3⟩;show (if b=c\/b=Wg then none else V5.own b)=some y;rw[if_neg zI];exact q1
 have oe:ji x deep Hs E c Wg rv dv fv [(5,.op (Hs.length+3) 0),(4,.op (Hs.length+2) 0)] [] (E5.frame f6) V6 (a5.put none undef):=by
  refine⟨⟨IN,cr.ai.tok.frame _,cr.ai.size⟩,cr.lo.trans (Env.GG E5 f6),cr.main,cr.defers,cr.deaf,cr.er,cr.ed,cr.ef,cr.dr.frame f6,cr.dd.frame f6,cr.df.frame f6,λb y e=> ?_,cr.ne⟩;obtain⟨q1,q2,q3⟩:=cr.fr b y e;refine⟨?_,q2,q3⟩;show (if b=c\/b=Wg then none else E5.fr b)=some y;rw[if_neg (λe=>e.elim q2 q3)];exact q1
 show WP true SA none (.seq (cf (cs (cs l_))) (cs (cs (cs l_)))) Q (a5.put none undef) V6;refine wp_seq ?_;refine oe.to (jd Hs) (ig Hs Kn.zero) ?_ λE7 V7 a7 oo Ck=> ?_
 ·show aQ true SA none 35 (cf (cs (cs l_))) _ _;unfold jd dp ig;refine am ?_;exact eo (by simp only[seval];simp[bC,Wk.refl]) rfl
 refine wp_block (id:=2) (c:=.loop aax) ?_;have cR:Eh x deep (p+1) Hs E c Wg rv dv fv [] Kn.zero (jd Hs) [] E7 V7 a7:=⟨by rw[SN];exact Ck,by rw[oo.role,aqj],.nil,C3,WI,λj hj=>by cases hj⟩;refine wp_loop (λm a' V'=>∃E' js D,m=p+1-js.length/\Eh x deep (p+1) Hs E c Wg rv dv fv js D (jd Hs) [] E' V' a') _ ⟨E7,[],Kn.zero,rfl,cR⟩ λm a8 V8 hI=> ?_;obtain⟨E8,js,D,rfl,h8⟩:=hI;have hlen:∀js:List Nat,js.Nodup->(∀j∈js,j<p+1)->js.length<=p+1:=λjs hn hl=>by
  have:=hn.length_le_of_subset (l₂:=SV (p+1)) λj hj=>by simpa using hl j hj
  simpa using this
 refine alV hx hA (by omega) zB cq h8 (λj D' E9 V9 a9 hj h9=> ?_) λE9 V9 a9 G ajw Mo I0 IP Ng xk fx=> ?_
 ·have h1:=hlen _ h9.nodup h9.lt;simp only[S4,T9]at h1;exact⟨p+1-(js++[j]).length,by simp;omega,E9,js++[j],D',rfl,h9⟩
 ·have La:js.Perm (SV (p+1)):=by
   refine(List.perm_ext_iff_of_nodup h8.nodup XW).2 λk=> ?_;rw[TP];exact⟨h8.lt k,fx k⟩
  exact hQ js D E9 V9 a9 G La h8.aaq h8.kn ajw Mo I0 IP Ng xk
end
theorem aie{x:ak}{deep:Int}{p:Nat}{H:List aa}{k kp:AV->List aa->Prop}(hx:x.Ok)(hA:wX x)(hp:x.an=p)(hm:H[0]?=some .main)(hk:∀js D L,js.Perm (SV (p+1))->nO x deep js D->bJ D->L.length=5->k (.agg (D.l (H.length+5))) (H++(L++[setH D.aK]))):bm true SA 77 H [x.av,iv deep] k kp:=by
 intro E V vs hc hd;have hEm:E.main=true:=hc.obj 0 _ hm;obtain⟨i_,uo⟩:=hc.top hEm;have hn:E.n=H.length:=hc.n;refine O2 (by simp) F.f77 rfl ?_;have sL:At (E.e9 false) V ⟨[(0,x.av),(1,iv deep)],H.map strip⟩ {tmps:=vs++TK (XL.ntmps-vs.size) undef,defers:=[]} 35:=by
  have:=BD (nt:=35) hc hd (by simp);exact⟨hc.agu,this.tok.e9 false,this.size⟩
 have hlen:(H.map strip).length=H.length:=Tn _;have K5:bH (H.map strip):=sL.bt.ay
 suffices o1:∀Hs,H.map strip=Hs->WP true SA none uO (Ends SA XL (gJ E V k kp)) {tmps:=vs++TK (XL.ntmps-vs.size) undef,defers:=[]} V from o1 _ rfl
 intro Hs cq;rw[cq]at sL hlen K5;have Q4:({tmps:=vs++TK (XL.ntmps-vs.size) undef,defers:=[]}:Act).defers=[]:=rfl;generalize({tmps:=vs++TK (XL.ntmps-vs.size) undef,defers:=[]}:Act)=a0 at sL Q4;have bM:x.l=[iv x.first,iv x.hours,iv x.an,dC x.seen,aT x.pieces,aT x.aC]:=rfl;refine wp_seq (x:=cf uO) (y:=cs uO) ?_;refine y9 ⟨[(4,.op (Hs.length+2) 0),(3,.op (Hs.length+1) 0),(2,.op Hs.length 0)],Hs++[.cells x.l 76,.cells [iv deep] 3,.cells jg 88]⟩ sL ?_ λE2 V2 a2 cD ul=> ?_
 ·show aQ true SA none 35 (cf uO) _ _;simp only[ak.av];refine am ?_;exact eo (by simp only[seval];simp[bC,Wk.refl]) rfl
 obtain⟨ti,v_⟩:∃i,SA.info? 88=some i:=Option.isSome_iff_exists.1 (by kernel_rfl);refine wp_seq (x:=cf (cs uO)) (y:=cs (cs uO)) (ady rfl rfl (anG rfl (d:=.both) (el:=88) (by kernel_rfl) v_ λc vS=> ?_));let f3:Nat->Option Obj:=λb=>if b=c then some sA else E2.fr b;have pU:At (E2.frame f3) (V2.upd c sA) ⟨[(11,.val (.chan (some c))),(4,.op (Hs.length+2) 0),(3,.op (Hs.length+1) 0),(2,.op Hs.length 0)],Hs++[.cells x.l 76,.cells [iv deep] 3,.cells jg 88]⟩ (a2.put (some 11) (.chan (some c))) 35:=
  ⟨ul.bt.aiY vS sA,(ul.tok.frame _).put (by rw[ul.size];omega) (.val _),(dU a2 (some 11) _).trans ul.size⟩
 refine NX ⟨[(5,.op (Hs.length+3) 0),(4,.op (Hs.length+2) 0),(3,.op (Hs.length+1) 0),(2,.op Hs.length 0)],Hs++[.cells x.l 76,.cells [iv deep] 3,.cells jg 88,.cells [.val (.chan (some c))] 139]⟩ rfl (by kernel_rfl) pU ?_ λE4 V4 a4 kQ rf=> ?_
 ·(try simp only[seval,anV,asj,al5]);exact eo (by simp only[seval];simp[bC,Wk.refl]) rfl
 refine wp_seq (x:=cf (cs (cs uO))) (y:=l_) ?_;refine y9 ⟨[(6,.op (Hs.length+4) 0),(5,.op (Hs.length+3) 0),(4,.op (Hs.length+2) 0),(3,.op (Hs.length+1) 0),(2,.op Hs.length 0)],Hs++[.cells x.l 76,.cells [iv deep] 3,.cells jg 88,.cells [.val (.chan (some c))] 139,.cells [.val (.int .u64 0),.val (.int .u32 0)] 147]⟩ rf ?_ λE5 V5 a5 f_ jU=> ?_
 ·show aQ true SA none 35 (cf (cs (cs uO))) _ _;refine am ?_;exact eo (by simp only[seval];simp[bC,Wk.refl]) rfl
 obtain⟨wcs,LB,hwo,x9,Cn⟩:=jU.bt.aiZ (id:=Hs.length+4) (ba _ _ 4);have alp:=Px (l:=[.int .u64 0,.int .u32 0]) LB;subst alp;rw[dJ]at Cn;simp only[UE,T1]at Cn;have PN:=jU.arR (t:=6) (id:=Hs.length+4) (off:=0) rfl;have Qp:E5.fr=f3:=f_.le.fr.trans kQ.le.fr;have vG:E5.fr c=some sA:=by rw[Qp];simp[f3]
 have aI:c≠E5.blk (Hs.length+4):=λe=>jU.bt.Di vG (ba Hs _ 4) rfl e.symm;have Qq:∀b y,E.fr b=some y->E5.fr b=some y/\b≠c/\b≠E5.blk (Hs.length+4):=λb y hb=>by
  have h2:E2.fr b=some y:=by rw[cD.le.fr];exact hb
  have zI:b≠c:=λe=>by subst e;have:=(ul.bt.fr b y h2).1;rw[vS.1]at this;cases this
  have h5:E5.fr b=some y:=by rw[Qp];simp[f3,zI,h2]
  exact⟨h5,zI,λe=>jU.bt.Di h5 (ba Hs _ 4) rfl e.symm⟩
 generalize zD:E5.blk (Hs.length+4)=Wg at hwo x9 Cn PN aI Qq;let f6:Nat->Option Obj:=λb'=>if b'=Wg then some (wgBlock SA 0 0)else E5.fr b';have Rf:Conc (E5.frame f6) V5 (Hs++[.cells x.l 76,.cells [iv deep] 3,.cells jg 88,.cells [.val (.chan (some c))] 139,.gone]):=by
  have:(λb'=>if b'=Wg then some (Obj.cells #[.int .u64 0,.int .u32 0] 147 (0,0))else E5.fr b')=f6:=by
   funext b';simp only[f6,wgBlock,wgT]
  rw[<- this];exact Cn
 have Ce:At (E5.frame f6) V5 ⟨[(6,.val (pW Wg 0)),(5,.op (Hs.length+3) 0),(4,.op (Hs.length+2) 0),(3,.op (Hs.length+1) 0),(2,.op Hs.length 0)],Hs++[.cells x.l 76,.cells [iv deep] 3,.cells jg 88,.cells [.val (.chan (some c))] 139,.gone]⟩ a5 35:=by
  refine⟨Rf,λt av e=> ?_,jU.size⟩;by_cases ht:t=6
  ·subst ht;cases e;refine⟨by rw[jU.size];omega,?_⟩;have:a5.tmps.getD 6 undef=pW Wg 0:=PN;rw[this];exact .val _
  ·refine(jU.tok.frame f6) t av ?_;simp only[look]at e⊢;rw[if_neg (Ne.symm ht)]at e⊢;exact e
 clear Cn Rf;have lo6:E.Lo (E5.frame f6):=((((E.amC false).trans cD.le.lo).trans (Env.GG E2 f3)).trans (kQ.le.lo.trans f_.le.lo)).trans (Env.GG E5 f6);have Mu:(E5.frame f6).main=false:=f_.le.main.trans (kQ.le.main.trans cD.le.main);have agr:a5.defers=[]:=f_.defers.trans (kQ.defers.trans ((put_defers a2 _ _).trans (cD.defers.trans Q4)));have ro6:V5.role=.plain:=f_.role.trans (kQ.role.trans (cD.role.trans i_));have de6:V5.deaf=0:=f_.deaf.trans (kQ.deaf.trans (cD.deaf.trans uo));have JF:(E5.frame f6).fr c=some sA:=by show f6 c=_;simp only[f6,if_neg aI];exact vG
 have JG:(E5.frame f6).fr Wg=some (wgBlock SA 0 0):=by show f6 Wg=_;simp[f6]
 have Qr:∀b y,E.fr b=some y->(E5.frame f6).fr b=some y/\b≠c/\b≠Wg:=λb y hb=>by
  obtain⟨q1,q2,q3⟩:=Qq b y hb;refine⟨?_,q2,q3⟩;show f6 b=_;simp only[f6,if_neg q3];exact q1
 generalize E5.frame f6=E6 at Ce lo6 Mu JF JG Qr;obtain⟨V7,g7,o7,r7,d7,wl,EE,Pq⟩:=Ce.bt.He (id:=Hs.length) (ba _ _ 0) 6 (by simp[bM]);rw[show Hs.length=Hs.length+0 from rfl,dJ]at EE;simp only[T1]at EE;have ac6:=Ce.tok.mono wl;generalize hE7:({E6 with I:=V7.ah}:Env)=E7 at wl EE Pq ac6;obtain⟨V8,g8,o8,r8,d8,uP,EF,Pr⟩:=EE.He (id:=Hs.length+1) (ba _ _ 1) 1 (by simp);rw[dJ]at EF;simp only[UE,T1]at EF;have ac7:=ac6.mono uP;generalize hE8:({E7 with I:=V8.ah}:Env)=E8 at uP EF Pr ac7;obtain⟨V9,g9,o9,r9,d9,uQ,xc,IS⟩:=EF.He (id:=Hs.length+3) (ba _ _ 3) 1 (by simp);rw[dJ]at xc;simp only[UE,T1]at xc;have ac8:=ac7.mono uQ;generalize hE9:({E8 with I:=V9.ah}:Env)=E9 at uQ xc IS ac8;refine WP.ghost g7 (WP.ghost g8 (WP.ghost g9 ?_));have Mo:E.Lo E9:=lo6.trans ((wl.trans uP).trans uQ).lo;have Ng:V9.role=.plain:=r9.trans (r8.trans (r7.trans ro6));have IP:V9.deaf=0:=d9.trans (d8.trans (d7.trans de6));have xk:E9.fr=E6.fr:=uQ.fr.trans (uP.fr.trans wl.fr);have n6:E6.n=Hs.length+5:=by rw[Ce.bt.n];simp
 have b7:∀k,k<Hs.length+5->E9.blk k=E6.blk k/\E9.blk k=E7.blk k/\E9.blk k=E8.blk k:=λk hk=>by
  have n7:=wl.n;have n8:=uP.n;have q7:=wl.blk k (by omega);have q8:=uP.blk k (by omega);have q9:=uQ.blk k (by omega);exact⟨by rw[q9,q8,q7],by rw[q9,q8],q9⟩
 obtain⟨c1,c2,c3⟩:=xc.fr c sA (by rw[xk];exact JF);obtain⟨v1,v2,v3⟩:=xc.fr Wg _ (by rw[xk];exact JG);refine ar5 (c:=c) (Wg:=Wg) rfl Ng aI c1 (by rw[v1];simp) v2 ?_;let Ii:View:={V9 with role:=.fork c Wg []};have agi:Conc (E9.frame E9.fr) Ii (Hs++(dp x deep c++[])):=by
  refine xc.yu (V':=Ii) _ rfl (λ_ _ _ _ _ _ h=>h) (λg hg=> ?_) (λg hg=> ?_) (λhm=>by rw[uQ.main,uP.main,wl.main,Mu]at hm;cases hm) xc.fr
  ·cases hg;exact⟨by show V9.own Wg≠none;rw[v1];simp,v2,v3⟩
  ·cases hg;exact⟨by show V9.own c≠none;rw[c1];simp,c2,c3⟩
 have dr9:aq E9 (.rp x.l) (.pointer (some ⟨E9.blk Hs.length,0,none⟩)):=by
  have h7:=(Pq.mono uP).mono uQ;rw[<- (b7 Hs.length (by omega)).1]at h7;rwa [SP (by simp[bM])]at h7
 have dd9:aq E9 (.rp [iv deep]) (.pointer (some ⟨E9.blk (Hs.length+1),0,none⟩)):=by
  have h8:=Pr.mono uQ;rw[<- (b7 (Hs.length+1) (by omega)).2.1]at h8;exact h8
 have I0:aq E9 (.rp [.val (.chan (some c))]) (.pointer (some ⟨E9.blk (Hs.length+3),0,none⟩)):=by
  rw[<- (b7 (Hs.length+3) (by omega)).2.2]at IS;exact IS
 have K1:ji x deep Hs E c Wg (.pointer (some ⟨E9.blk Hs.length,0,none⟩)) (.pointer (some ⟨E9.blk (Hs.length+1),0,none⟩)) (.pointer (some ⟨E9.blk (Hs.length+3),0,none⟩)) [(6,.val (pW Wg 0)),(5,.op (Hs.length+3) 0),(4,.op (Hs.length+2) 0),(3,.op (Hs.length+1) 0),(2,.op Hs.length 0)] [] E9 Ii a5:=
  ⟨⟨agi,ac8,Ce.size⟩,Mo,uQ.main.trans (uP.main.trans (wl.main.trans Mu)),agr,IP,rfl,rfl,rfl,dr9,dd9,I0,λb y hb=>by rw[xk];exact Qr b y hb,aI⟩
 refine alW hx hA hp (by omega) K5 ⟨K1,rfl,by rw[xk];exact JF,by rw[xk];exact JG⟩ λjs D E11 V11 a11 G La jq dW Q6 amB agq agn apj aiX=> ?_;subst cq;have fg:=Kn.len dW (H.length+5);let L5:List aa:=[.part 6 x.l 76,.part 1 [iv deep] 3,.cells (D.l (H.length+5)) 88,.part 1 [.val (.chan (some c))] 139,.gone];rw[hlen]at Q6;refine⟨agq,aph (P:=SA) (rs:=[.cell 4 88]) (H:=H) (L:=L5++[setH D.aK]) (G:=G) (T:=[(4,.op (H.length+2) 0)]) (av:=.agg (D.l (H.length+5))) rfl Q6 amB hc (apj.trans i_.symm) (agn.trans uo.symm) aiX ?_ rfl ?_ ?_ (hk js D L5 La jq dW rfl)⟩
 ·have hg:(H.map strip++(L5++[setH D.aK]++G))[H.length+2]?=some (.cells (D.l (H.length+5)) 88):=by
   have:=ba (H.map strip) (L5++[setH D.aK]++G) 2;rw[hlen]at this;exact this
  have aG:TH 28 (D.l (H.length+5))=D.l (H.length+5):=SP (by omega);generalize hLG:H.map strip++(L5++[setH D.aK]++G)=LG at hg;try simp only[seval,gT,uX,hg,fg,aG,aa.cellsOf]
 ·have hl:H.length=(H.map strip).length:=hlen.symm;intro y hy;have akl:(H.map strip++(L5++[setH D.aK])).length=H.length+6:=by simp[L5]
  rw[akl];rcases SS.1 hy with h|h
  ·exact(K5 y h).mono (by omega)
  ·simp only[L5,SK,SS,SZ,or_false]at h;rcases h with(rfl|rfl|rfl|rfl|rfl)|rfl
   ·exactλa ha=>GJ x _ a ha
   ·intro a ha;simp at ha;subst ha;exact .val _
   ·exact yc (by omega)
   ·intro a ha;simp at ha;subst ha;exact .val _
   ·trivial
   ·trivial
 ·refine .agg λa ha=> ?_;exact yc (by simp[L5]) a ha
namespace Tk
theorem RB{x:ak}{bk:Nat}(h0:0<=x.first)(h90:x.first<=90)(hp:0<=x.an/\x.an<=3):∀(d:Nat)(pre:List Int),pre.length+d<=4->pre.head?=some x.first->(∀a∈pre,x.first<=a/\a<=x.first+3* (pre.length-1:Nat))->∀h∈mC x bk d pre,h.length=4/\h.head?=some x.first/\∀a∈h,x.first<=a/\a<=x.first+9
 |0,pre,hl,hh,ha,h,hm=>by
  unfold mC at hm;split at hm
  ·rw[S8]at hm;subst hm;have aI:pre≠[]:=λe=>(by rw[e]at hh;cases hh);have cS:0<pre.length:=VK.2 aI;have ux:pre.getLastD 0∈pre:=by
    rw[Vh,XN aI];exact Zo aI
   refine⟨by simp[cH];omega,by rw[cH,WK,hh];rfl,λa hm=> ?_⟩;have KV:a∈pre:=by
    rcases SS.1 hm with h|h
    ·exact h
    ·rw[(Xw.1 h).2];exact ux
   have:=ha a KV;omega
  ·cases hm
 |d+1,pre,hl,hh,ha,h,hm=>by
  unfold mC at hm;split at hm
  ·obtain⟨n,hn,hm⟩:=S6.1 hm;have iN:n<x.an.toNat+1:=(by simpa using hn);split at hm
   ·cases hm
   ·have aI:pre≠[]:=λe=>(by rw[e]at hh;cases hh);have cS:0<pre.length:=VK.2 aI;have ux:pre.getLastD 0∈pre:=by
     rw[Vh,XN aI];exact Zo aI
    refine RB h0 h90 hp d _ (by simp;omega) (by rw[WK,hh];rfl) (λa KV=> ?_) h hm;rw[S4,T9];rcases SS.1 KV with h'|h'
    ·have:=ha a h';omega
    ·rw[S8]at h';subst h';have:=ha _ ux;omega
  ·cases hm
theorem Rx{x:ak}{bk:Nat}(hx:x.Ok){h:List Int}(hm:h∈kq x bk):mm h:=by
 have hf:=hx.first;have hh:=hx.hours;have hp:=hx.an;obtain⟨h1,h2,h3⟩:=RB (bk:=bk) hf.1 hf.2 ⟨by omega,hp.2⟩ x.hours.toNat [x.first] (by simp;omega) rfl (λa ha=>by rw[S8]at ha;subst ha;simp) h hm;refine⟨h1,λa ha=>by have:=h3 a ha;omega,λa ha=>by have:=h3 a ha;omega,?_⟩
 match h,h1,h2,h3 with
 |[a,b,c,d],_,h2,h3=>
  have ha:a=x.first:=by simpa using h2
  have:=h3 d (by simp);simp;omega
theorem abk:∀{qs:List Nat}{u:Nat}{t ns:List Nat},ns∈kz qs u t->∃l,ns=t++l/\l.length=qs.length/\∀(i n q:Nat),l[i]?=some n->qs[i]?=some q->n<9/\q.testBit n=true
 |[],u,t,ns,h=>by
  simp only[kz,S8]at h;exact⟨[],by simp[h],rfl,λi n q h1=>by cases h1⟩
 |q::qs,u,t,ns,h=>by
  simp only[kz,S6]at h;obtain⟨n,hn,h⟩:=h;split at h
  ·cases h
  ·rename_i hc;obtain⟨l,h1,h2,h3⟩:=abk h;refine⟨n::l,by rw[h1];simp,by simp[h2],λi m q' h4 h5=> ?_⟩
   match i with
   |0=>
    cases h4;cases h5;refine⟨by simpa using hn,?_⟩;simp at hc;exact hc.2
   |i+1=>exact h3 i m q' h4 h5
theorem abw{k:Nat}{ns:List Nat}:∀{qs:List Nat}{u:Nat}{t os:List Nat},os∈me k ns qs u t->∃l,os=t++l/\l.length=qs.length/\∀n∈l,n<k
 |[],u,t,os,h=>by
  simp only[me,S8]at h;exact⟨[],by simp[h],rfl,λn h1=>by cases h1⟩
 |q::qs,u,t,os,h=>by
  simp only[me,S6]at h;obtain⟨n,hn,h⟩:=h;split at h
  ·cases h
  ·obtain⟨l,h1,h2,h3⟩:=abw h;refine⟨n::l,by rw[h1];simp,by simp[h2],λm hm=> ?_⟩;rcases SK.1 hm with rfl|hm
   ·simpa using hn
   ·exact h3 m hm
theorem NH:∀{h:List Int}{i:Nat}{n a:Int},h.head?=some a->a<=n->n<h.getLastD 0->0<=fq i h n
 |[],i,n,a,h1,_,_=>by cases h1
 |[b],i,n,a,h1,h2,h3=>by
  simp at h1 h3;omega
 |b::c::l,i,n,a,h1,h2,h3=>by
  have:b=a:=by simpa using h1
  subst this;unfold fq;split
  ·omega
  ·rename_i hc;exact NH (a:=c) rfl (by omega) (by simpa[Vh]using h3)
theorem arx{x:ak}{h:List Int}{ns os:List Nat}(hx:x.Ok)(hh:mm h)(hn:ns∈fP x h)(ho:os∈ij x h ns):jj x (dx h ns os):=by
 obtain⟨l,e1,e2,e3⟩:=abk hn;simp only[Uy]at e1;subst e1;obtain⟨m,g1,g2,g3⟩:=abw ho;simp only[Uy]at g1;subst g1;rw[Tn]at e2 g2;have h4:=hh.len;have FY:=hx.dY;have pc:=hx.di;have CP:(dx h ns os).take 4=h:=by
  unfold dx;rw[SC,Tw (by omega),SP (by omega)]
 have da:(kY 4 ns).length=4:=AA (by omega);have hg:∀p,p<ns.length->(dx h ns os)[4+p]?=(ns[p]?).map λn:Nat=>(n:Int):=λp hp=>by
  unfold dx;rw[SC,S9 (by omega),SX (by omega),h4,TU];unfold kY;rw[SX (by simpa using hp),Tm]
 refine⟨by simp[dx,h4,da,AA (k:=3) (l:=os) (by omega)],by rw[CP];exact hh,λp hp=> ?_,λs hs=> ?_⟩
 ·obtain⟨n,CC⟩:=cj (xs:=ns) (i:=p) (by omega);obtain⟨y,hy⟩:=cj hp;obtain⟨q1,q2⟩:=e3 p n (bU h y) CC (by rw[Tm,hy];rfl);refine⟨n,by rw[hg p (by omega),CC];rfl,q1,?_⟩;rw[CP];unfold bU at q2;rw[BF]at q2;simp only[Tg,lj,decide_eq_true_eq]at q2;obtain⟨a,b,c,d,rfl,_⟩:=hh.out;have e0:(dx [a,b,c,d] ns os).getD 0 0=a:=rfl;rw[e0];have:=q2.2.1.1;simp at this;exact NH (a:=a) rfl (by omega) (by simp;omega)
 ·obtain⟨o,K7⟩:=cj (xs:=os) (i:=s) (by omega);refine⟨o,?_,by have:=g3 o (Tc K7);omega⟩;unfold dx;rw[S9 (by simp[h4,da]),show (h++kY 4 ns).length=8 by simp[h4,da],TU];unfold kY;rw[SX (by have:=eI K7;simpa using this),Tm,K7];rfl
end Tk
theorem DT{x:ak}(hx:x.Ok):wX x:=λbk _ h hm=>by
 have hh:=Rx hx hm;refine⟨hh,λns iA a ha=> ?_⟩;obtain⟨os,h1,rfl⟩:=Tl.1 ha;exact arx hx hh iA h1
open Go.Conc
section
variable {lv:Bool}{P:SI}{s:AS}{ms:List Nat}{bs:List UX}{nt:Nat}
theorem aiK{f:TS}{fn:ZQ}{c0 c1 c2:T6}{rs:List UO}{H:List aa}{args:List AV}{k kp:AV->List aa->Prop}(hf:P.funcs[f]?=some fn)(hb:fn.body=some (.seq c0 (.seq c1 c2)))(hr:fn.results=rs.toArray)(hn:fn.ntmps=nt)(cJ:args.length<=nt)
  (h:bH H->(∀a∈args,Lt H.length a)->aQ lv P none nt c0 ⟨br 0 args,H⟩ λe s0=>e=.normal/\A3 lv P nt c1 s0 [] (λe s' m8=>e=.normal/\∃c,m8=[c]/\∀bs,j7 lv P nt bs c2 s' [] (yQ lv P rs H.length c k kp))):bm lv P f H args k kp:=by
 intro E V vs hc hd;have hlt:∀a∈args,Lt H.length a:=λa ha=>by
  obtain⟨i,hi⟩:=pq ha;rw[<- hc.n];exact(hd.2 i a hi).lt
 have ai:=BD (nt:=nt) hc hd cJ;refine af2 (by simp) hf hb ?_;rw[hn];refine wp_seq (h hc.ay hlt E V _ _ ai λae e E0 V0 a0 s0 uv sL he0 hΦ0=> ?_);obtain⟨rfl,x8⟩:=hΦ0;cases e<;>first
  |exact he0.elim
  |skip
 have ajW:a0.defers=[]:=uv.defers;refine wp_seq (x8 E0 V0 a0 _ sL (by rw[ajW];trivial) λae e E1 V1 a1 s1 ds1 aki vN bY nh hΦ1=> ?_);obtain⟨rfl,c,rfl,hw⟩:=hΦ1;have iz:=uv.d.trans aki;cases e<;>first
  |exact nh.elim
  |skip
 obtain⟨d,iZ,bp⟩:∃d,a1.defers=[d]/\yK E1 c d:=by
  match iZ:a1.defers,bY with
  |[d],bY=>exact⟨d,rfl,bY.1⟩
  |[],bY=>exact bY.elim
  |_::_::_,bY=>exact bY.2.elim
 refine hw [d] E1 V1 a1 _ vN ⟨by simp[iZ],by simp⟩ λae e E' V' a' s' cy hk aU fM he hΦ=> ?_;have hle:E.Le E':=iz.le.trans hk.le;have fin:∀(md:U9)(m:Option AV)(H':List aa),(md matches .run)=false->iG cy s'.H=some H'->Oa E' m md->qF lv P c H' m (λH'=>ap (gT P ⟨s'.T,H'⟩ rs) λl=>cC H.length H' (iR l) k) (λH'=>∀pv,m=some pv->cC H.length H' pv kp)->tT lv P fn (gJ E V k kp) a'.defers md a'.tmps V':=by
  intro md m H' qb hg RX hD;refine adn qb cy _ H' E' V' _ hg aU.bt fM λV2 r1 r2 cL=> ?_;have ajT:=bp.mono hk.le;refine⟨qb,.inr ⟨?_,?_⟩⟩
  ·obtain⟨f,first,cQ,fa,ca,vs,h1,rfl,h3,h4,h5⟩:=bp;exact⟨_,_,rfl⟩
  ·refine(hD E' V2 d md cL ajT RX).mono (λnx aS hx=> ?_) λ_ _ h=>h;obtain⟨g,args,rfl,B7⟩:=hx;refine⟨g,args,rfl,B7.mono λnG V3 hx=> ?_⟩;obtain⟨E3,H3,q1,q2,q3,q4,q5|q5⟩:=hx
   ·obtain⟨rfl,q5⟩:=q5;exact abV (s':=⟨s'.T,H3⟩) (a':=a') hr ⟨q4,aU.tok.mono q1,aU.size⟩ (hle.trans q1) hc.n (q2.trans (r1.trans (hk.role.trans iz.role))) (q3.trans (r2.trans (hk.deaf.trans iz.deaf))) q5
   ·obtain⟨rfl,uz,q5⟩:=q5;cases m with
    |none=>cases uz
    |some pv=>
     obtain⟨v,rfl,lZ⟩:=RX;obtain⟨b,bO,tN,t1,t2,t3,t4⟩:=xe (q5 pv rfl) q4 (lZ.mono q1) (hle.trans q1) hc.n;exact⟨b,v,bO,tN,rfl,t1,q2.trans (r1.trans (hk.role.trans iz.role)),q3.trans (r2.trans (hk.deaf.trans iz.deaf)),t2,t3,t4⟩
 have aiB:yQ lv P rs H.length c k kp .ret s' cy->tT lv P fn (gJ E V k kp) a'.defers .returning a'.tmps V':=λhΦ=>by
  obtain⟨H',hg,hΦ⟩:=ap.out hΦ;refine fin .returning none H' rfl hg rfl λE2 V2 d2 Mw c1 c2 c3=> ?_;refine(hΦ E2 V2 d2 Mw c1 c2 c3).mono (λnx aS hx=> ?_) λ_ _ h=>h;obtain⟨g,args,rfl,B7⟩:=hx;refine⟨g,args,rfl,B7.mono λnG V3 hx=> ?_⟩;obtain⟨E3,H3,q1,q2,q3,q4,q5|q5⟩:=hx
  ·exact⟨E3,H3,q1,q2,q3,q4,.inl q5⟩
  ·exact q5.2.2.elim
 cases ae<;>cases e<;>first
  |exact he.elim
  |exact aiB hΦ
  |exact hΦ.elim
  |skip
 rename_i pv ch;obtain⟨v,eP,ajU⟩:∃v,ch=[{v,recovered:=false}]/\aq E' pv v:=he;subst eP;obtain⟨H',hg,hΦ⟩:=ap.out hΦ;refine fin _ (some pv) H' rfl hg ⟨v,rfl,ajU⟩ λE2 V2 d2 Mw c1 c2 c3=> ?_;refine(hΦ E2 V2 d2 Mw c1 c2 c3).mono (λnx aS hx=> ?_) λ_ _ h=>h;obtain⟨g,args,rfl,B7⟩:=hx;refine⟨g,args,rfl,B7.mono λnG V3 hx=> ?_⟩;obtain⟨E3,H3,q1,q2,q3,q4,q5|q5⟩:=hx
 ·exact⟨E3,H3,q1,q2,q3,q4,.inl q5⟩
 ·exact⟨E3,H3,q1,q2,q3,q4,.inr ⟨q5.1,q5.2.1,λpv' e=>by cases e;exact q5.2.2⟩⟩
end
open Go.Proofs Go.Gg.Tk
namespace Tk
def vB (x:ak):Bool:=(SV (x.an.toNat+1)).any λbk=>(kq x bk).any λh=> !(jf x 0 h).isEmpty
end Tk
def uU:AV:=.cY 136 (.agg [])
section
variable {lv:Bool}{H:List aa}{kr kp:List aa->Prop}
theorem ain{r:Nat}(h:∀L,kr (H++L)):qF lv SA (.fn (.func 95) [] [.op r 0],[]) H none kr kp:=by
 refine Po (nt:=9) (by kernel_rfl) F.f95 rfl rfl rfl rfl rfl rfl rfl rfl (by kernel_rfl) (by simp) ?_;simp only[br,SW,Uy,Vo];(try simp only[seval,F.L1]);refine dX (a:=[]) rfl ⟨rfl,by decide,by simp,?_⟩;refine am ?_;refine aF ?_;refine afn ?_;exact .inl (h _)
theorem aio{r:Nat}{a:AV}(hr:H[r]?=some (.cells [a] 4))(h:∀L,kr (H.set r (.cells [bv true] 4)++L)):qF lv SA (.fn (.func 95) [] [.op r 0],[]) H (some uU) kr kp:=by
 refine Po (nt:=9) (by kernel_rfl) F.f95 rfl rfl rfl rfl rfl rfl rfl rfl (by kernel_rfl) (by simp) ?_;simp only[br,SW,Uy,S7,uU];(try simp only[seval,F.L1]);have uD:=eI hr;have xT:∀L:List aa,(H++L)[r]?=some (.cells [a] 4):=λL=>fH hr;refine am ?_;refine aF ?_;refine aj ?_;simp only[seval,xT,u6 uD];exact .inl (h _)
end
def qT (x:ak)(m:Lp)(h:List Int):dA Lp:=if(jf x 0 h).isEmpty then .go .ready else .bad .busy
theorem O9{x:ak}:∀(l:List (List Int)),bD (qT x) l .ready=if l.any (λh=> !(jf x 0 h).isEmpty)=true then .bad .busy else .go .ready
 |[]=>by simp[bD]
 |h::l=>by
  have ih:=O9 (x:=x) l;by_cases he:(jf x 0 h).isEmpty=true
  ·have e1:qT x .ready h=.go .ready:=(by unfold qT;rw[if_pos he]);rw[bD,e1];dsimp only;rw[ih];simp only[YR,he,ai',XT]
  ·have e1:qT x .ready h=.bad .busy:=(by unfold qT;rw[if_neg he]);rw[bD,e1];dsimp only;have e2:(jf x 0 h).isEmpty=false:=(by simpa using he);simp only[YR,e2,YD,ae',if_true]
theorem afC(l:List (List Int)):bD (λ(_:Lp) (_:List Int)=>(.bad .busy:dA Lp)) l .ready=if l.isEmpty then .go .ready else .bad .busy:=by
 cases l<;>rfl
def BK (x:ak)(i:Nat):List aa:=[.cells x.l 76,.cells [iv i] 3,.obj (.deferred (some [])),.gone]
def j_ (x:ak)(H:List aa):Nat->List aa
 |0=>H++[.cells x.l 76,.cells [bv false] 4]
 |i+1=>j_ x H i++BK x i
def xa (H:List aa):Nat->List Nat
 |0=>[]
 |i+1=>(H.length+2+4* i+2)::xa H i
theorem II(x:ak)(H:List aa):∀i,(j_ x H i).length=H.length+2+4* i
 |0=>by simp[j_]
 |i+1=>by simp[j_,BK,II x H i];omega
theorem O8(x:ak)(H:List aa):∀i,∃Y,j_ x H i=H++[.cells x.l 76,.cells [bv false] 4]++Y
 |0=>⟨[],by simp[j_]⟩
 |i+1=>by
  obtain⟨Y,h⟩:=O8 x H i;exact⟨Y++BK x i,by rw[j_,h,SC]⟩
theorem IH(x:ak)(H:List aa):∀(i:Nat)(L:List aa),∃Y,iG (xa H i) (j_ x H i++L)=some (H++[.cells x.l 76,.cells [bv false] 4]++Y)
 |0,L=>⟨L,by rw[xa,zy,j_]⟩
 |i+1,L=>by
  have hl:=II x H i;have e:(j_ x H (i+1)++L)=j_ x H i++(BK x i++L):=by rw[j_,SC]
  have hg:(j_ x H i++(BK x i++L))[H.length+2+4* i+2]?=some (.obj (.deferred (some []))):=by rw[<- hl,ba];rfl
  obtain⟨Y,hY⟩:=IH x H i ([.cells x.l 76,.cells [iv i] 3,.gone,.gone]++L);refine⟨Y,?_⟩;rw[xa,e,zx hg,<- hl,dJ];exact hY
theorem O7(x:ak)(H:List aa)(i:Nat)(L:List aa):(j_ x H i++L)[H.length]?=some (.cells x.l 76)/\(j_ x H i++L)[H.length+1]?=some (.cells [bv false] 4):=by
 obtain⟨Y,h⟩:=O8 x H i;rw[h,SC,SC];exact⟨ba H _ 0,ba H _ 1⟩
section
variable {lv:Bool}
theorem aiQ{P:SI}(rs:List UO)(n:Nat)(c:AV×List AV)(k kp:AV->List aa->Prop)(pv:AV)(s:AS)(ms:List Nat):yQ lv P rs n c k kp (.panic pv) s ms=ap (iG ms s.H) λH'=>qF lv P c H' (some pv) (λH'=>ap (gT P ⟨s.T,H'⟩ rs) λl=>cC n H' (iR l) k) (λH'=>cC n H' pv kp):=by rw[yQ]
theorem aiR{P:SI}(rs:List UO)(n:Nat)(c:AV×List AV)(k kp:AV->List aa->Prop)(s:AS)(ms:List Nat):yQ lv P rs n c k kp .ret s ms=ap (iG ms s.H) λH'=>qF lv P c H' none (λH'=>ap (gT P ⟨s.T,H'⟩ rs) λl=>cC n H' (iR l) k) (λ_=>False):=by rw[yQ]
theorem aib{H:List aa}{k kp:AV->List aa->Prop}{x:ak}(hx:x.Ok)(hk:k (bv (vB x)) H):bm lv SA 71 H [x.av] k kp:=by
 refine aiK (rs:=[.cell 2 4]) (nt:=24) F.f71 rfl rfl rfl (by simp) λhH hA=> ?_;simp only[br,SW,ak.av];have JM:=DT hx;have hp:=hx.an;obtain⟨p,ie⟩:∃p:Nat,x.an=p:=⟨x.an.toNat,by omega⟩;have bM:x.l=[iv x.first,iv x.hours,iv x.an,dC x.seen,aT x.pieces,aT x.aC]:=rfl;have a_:∀(L:List aa),(H++L)[H.length]?=L[0]?:=λL=>ba H L 0;have hw:SD.wrap (x.an+1)=((p+1:Nat):Int):=by rw[ie,bB _ (by omega)];rfl
 refine aj ?_;simp only[seval,F.Og];refine OT (n:=1) rfl rfl rfl rfl rfl rfl (by kernel_rfl) ?_;(try simp only[seval,Ua,UC,Uj,TN]);refine⟨⟨_,_,_,rfl⟩,_,rfl,λbs=> ?_⟩;refine Ez ?_;refine su ?_;refine aj ?_;simp only[seval,a_,bM,hw];refine w8 ?_;refine OU (measure λi=>p+1-i).wf (λi:Nat=>⟨[(10,iv i),(9,iv ((p+1:Nat):Int)),(2,.op (H.length+1) 0),(1,.op H.length 0)],j_ x H i⟩) (λi=>xa H i) (λi=>i<=p+1/\∀j,j<i->∀h∈kq x j,(jf x 0 h).isEmpty=true) 0 (eo (by simp only[seval];simp[bC,Wk.refl]) rfl) rfl ⟨by omega,λj hj=>by omega⟩ λi ay=> ?_;obtain⟨oi,fi⟩:=ay;have cK:=II x H i;have od:=λL=>(O7 x H i L).1;have xB:=λL=>(O7 x H i L).2;obtain⟨N,hN⟩:∃N,N=H.length+2+4* i:=⟨_,rfl⟩;rw[<- hN]at cK;have Ra:(j_ x H i)[H.length]?=some (.cells x.l 76):=by have:=od [];rwa [SN]at this
 refine su ?_;refine am ?_;refine su ?_;refine aF ?_;refine⟨λh=> ?_,λh=> ?_⟩
 ·
  have pZ:i<=3:=by omega
  refine aO ?_;refine Ez ?_;refine w8 ?_;refine su ?_;refine am ?_;refine su ?_;refine aj ?_;simp only[seval,Ra,bM];refine aL ((Jm (x:=x) (n:=i) ?_));rw[cK];(try simp only[seval]);refine w8 ?_;refine IA (by rfl) λl fn T ag bo hT xz pX=> ?_;have nk:(j_ x H i++[aa.cells x.l 76,aa.cells [iv i] 3]).length=N+2:=by rw[S4,cK];rfl
  (try simp only[seval]);rw[cK];obtain⟨B,hB⟩:∃B,B=j_ x H i:=⟨_,rfl⟩;rw[<- hB]at cK Ra od xB⊢;have bg:∀(L:List aa)(j:Nat),(B++L)[N+j]?=L[j]?:=λL j=>by rw[<- cK,ba]
  have EC:∀(L:List aa)(j:Nat)(y:aa),(B++L).set (N+j) y=B++L.set j y:=λL j y=>by rw[<- cK,dJ]
  have Rh:∀(M:List aa)(lp:Lp),bH (B++([aa.cells x.l 76,.cells [iv i] 3,.obj (.deferred (some [])),.loop l .ready none fn T 24 #[16] ag bo (N+2)]++M))->bH (B++([aa.cells x.l 76,.cells [iv i] 3,.obj (.deferred (some [])),.loop l lp.st lp.pe fn T 24 #[16] ag bo (N+2)]++M)):=λM lp g_ z hz=>by
   have hlen:(B++([aa.cells x.l 76,.cells [iv i] 3,.obj (.deferred (some [])),.loop l lp.st lp.pe fn T 24 #[16] ag bo (N+2)]++M)).length=(B++([aa.cells x.l 76,.cells [iv i] 3,.obj (.deferred (some [])),.loop l .ready none fn T 24 #[16] ag bo (N+2)]++M)).length:=(by simp);have hl:=g_ (.loop l .ready none fn T 24 #[16] ag bo (N+2)) (by simp);rw[hlen];rcases SS.1 hz with h'|h'
   ·exact g_ z (Tf _ h')
   ·rcases SS.1 h' with h'|h'
    ·simp only[SK,SZ,or_false]at h';rcases h' with rfl|rfl|rfl|rfl
     ·exact g_ _ (by simp)
     ·exact g_ _ (by simp)
     ·exact g_ _ (by simp)
     ·exact hl
    ·exact g_ z (S0 _ (S0 _ h'))
  have hY:jC lv SA (.fn (.yield l) [] []) (qT x) (λlp:Lp=>B++[.cells x.l 76,.cells [iv i] 3,.obj (.deferred (some [])),.loop l lp.st lp.pe fn T 24 #[16] ag bo (N+2)]) (N+4) (λlp=>lp=.ready) (λh=>mm h/\∀ns∈fP x h,∀a∈(ij x h ns).map (dx h ns),jj x a) uU:=by
   refine⟨λlp h M k kp gf ha dM=> ?_,λlp h C_ gf ha he=> ?_,λlp=>by simp[cK],λm lp C_ hz z eT=> ?_,rfl,rfl,rfl⟩
   ·replace gf:lp=.ready:=gf;subst gf;obtain⟨oX,CQ⟩:=ha;have h4:=oX.len;have na:(h.map iv).length=4:=(by rw[Tn,h4]);obtain⟨Lo,kK⟩:∃Lo,Lo=aa.loop l .busy none fn T 24 #[16] ag bo (N+2):=⟨_,rfl⟩;obtain⟨P1,dq⟩:∃P1:List aa,P1=B++([.cells x.l 76,.cells [iv i] 3,.obj (.deferred (some [])),Lo]++M):=⟨_,rfl⟩;have ee:P1.length=N+4+M.length:=(by rw[dq];simp[cK];omega);have pg3:∀(L:List aa),(P1++L)[N+3]?=some Lo:=λL=>(by rw[dq,SC,bg];rfl);have px:∀(L:List aa),(P1++L)[H.length]?=some (.cells x.l 76):=λL=>(by rw[dq,SC];exact od _);have pb:∀(L:List aa)(j:Nat),(P1++L)[N+4+M.length+j]?=L[j]?:=λL j=>(by rw[<- ee,ba]);have wy:∀(L:List aa),(P1++L)[N+4+M.length]?=L[0]?:=λL=>pb L 0;have pz:∀(L:List aa)(y:aa),(P1++L).set (N+4+M.length+4) y=P1++L.set 4 y:=λL y=>(by rw[<- ee,dJ]);have s3:∀(L:List aa) y,(P1++L).set (N+3) y=B++([.cells x.l 76,.cells [iv i] 3,.obj (.deferred (some [])),y]++M)++L:=λL y=>by
     rw[dq,SC,EC];simp
    subst hT xz pX;rw[SC];refine vA (id:=N+3) (by rw[bg];rfl) rfl (by kernel_rfl) λn4 JN=> ?_;simp only[r6];have vU:TR 4 [iv 0,iv 0,iv 0,iv 0]=[]:=rfl;refine aj ?_;simp only[seval,h4,vU];unfold tS;refine⟨none,fn,_,24,#[16],_,_,_,by rw[bg];rfl,?_⟩;dsimp only;rw[EC];simp only[UE,T1];rw[<- kK];have xr:B.length+(M.length+1+1+1+1)=N+4+M.length:=(by rw[cK];omega);rw[xr];have xI:∀z:aa,(B++aa.cells x.l 76::aa.cells [AV.val (SF SD ↑i)] 3::aa.obj (atX (some []))::Lo::(M++[z]))=P1++[z]:=λz=>(by rw[dq];simp[iv]);rw[xI];refine aj ?_;simp only[seval,px,bM,wy,h4,na];rw[SP (i:=4) (l:=h.map iv) (by rw[na];exact SQ _)];refine aL ((Jn (x:=x) (h:=h) (deep:=0) ?_));(try simp only[seval]);refine cP ?_;refine Ew (N+3) (by rfl) (by show (P1++_)[N+3]?=_;rw[pg3,kK]) λl2 eG T2 gq gr n9 xA xC=> ?_;simp only[seval];rw[ee];have xy:jC lv SA (.fn (.yield l2) [] []) (λ(_:Lp) (_:List Int)=>(.bad .busy:dA Lp)) (λlp:Lp=>P1++[.cells (h.map iv) 83,.cells x.l 76,.cells (h.map iv) 83,.cells [iv 0] 3,.loop l2 lp.st lp.pe eG T2 24 #[20] gq gr (N+2)]) (N+4+M.length+5) (λlp=>lp=.ready) (λa=>a.length=11) uU:=by
     refine⟨λlp t M2 k2 yd gf ht kR=> ?_,λlp t C_ gf ht he=>(by cases he),λlp=>by simp[ee],λq lp C_ hz z eT=> ?_,rfl,rfl,rfl⟩
     ·replace gf:lp=.ready:=gf;subst gf;simp only[cV]at kR;have lM:∀(L:List aa),(P1++L)[N+4+M.length+4]?=L[4]?:=λL=>pb L 4;subst n9 xA xC;rw[SC];refine vA (id:=N+4+M.length+4) (by rw[lM];rfl) rfl (by kernel_rfl) λq_ JO=> ?_;simp only[r6];refine aO ?_;unfold tS;refine⟨none,eG,_,24,#[20],_,_,_,by rw[lM];rfl,?_⟩;dsimp only;rw[pz];simp only[UE,T1];refine aj ?_;simp only[seval,F.L1];show cC _ (P1++_) _ yd;rw[SC]at kR;exact bX kR
     ·rcases SS.1 eT with h'|h'
      ·exact hz z (Tf _ h')
      ·have hl:=hz _ (S0 _ (Tc (i:=4) rfl));simp only[SK,SZ,or_false]at h';rcases h' with rfl|rfl|rfl|rfl|rfl
       ·exact hz _ (S0 _ (by simp))
       ·exact hz _ (S0 _ (by simp))
       ·exact hz _ (S0 _ (by simp))
       ·exact hz _ (S0 _ (by simp))
       ·exact hl
    rw[ee]at n9;have FS:∀n,Lt n uU:=λn=>(by simp[uU,aaO,tn]);refine c9 (Jr (x:=x) (h:=h) (deep:=0) (ir:=N+4+M.length+1) (ih:=N+4+M.length+1+1) (id:=N+4+M.length+1+2) (σ:=Lp.ready) hx oX xy (λlp L=> ?_) (λlp L=> ?_) (λlp L=> ?_) FS rfl (λa ha=>ha) (λns iA a ha=>(CQ ns iA a ha).len) ?_)
    ·rw[SC];exact pb _ 1
    ·rw[SC];exact pb _ 2
    ·rw[SC];exact pb _ 3
    rw[afC];have lM:∀(L:List aa),(P1++L)[N+4+M.length+4]?=L[4]?:=λL=>pb L 4;by_cases sP:(jf x 0 h).isEmpty=true
    ·rw[if_pos sP];have e1:qT x .ready h=.go .ready:=(by unfold qT;rw[if_pos sP]);rw[e1]at dM;simp only[cV]at dM;simp only[fS,SN];refine⟨.ready,none,_,_,_,_,_,_,_,by rw[lM];rfl,by decide,?_⟩;rw[pz,Hb];(try simp only[seval]);show oK _ _ _ _ _ _ _;refine⟨l,.busy,none,fn,_,24,#[16],_,_,N+2,by show (P1++_)[_]?=_;rw[pg3,kK],?_⟩;show cC (N+4+M.length) ((P1++_).set _ _) _ k;rw[s3];rw[SC]at dM;exact jH (G:=[.cells (h.map iv) 83,.cells x.l 76,.cells (h.map iv) 83,.cells [iv 0] 3,.gone]) (Wk.refl _) (by simp[iv];exact⟨rfl,rfl⟩) (by simp[cK];omega) (Rh M .ready n4) (.val _) dM
    ·rw[if_neg sP];have e1:qT x .ready h=.bad .busy:=(by unfold qT;rw[if_neg sP]);rw[e1]at dM;simp only[cV]at dM;simp only[fS,SN];show cC (N+4+M.length) (P1++_) uU kp;rw[SC]at dM;refine jH (H':=B++([aa.cells x.l 76,.cells [iv i] 3,.obj (.deferred (some [])),.loop l Lp.busy.st Lp.busy.pe fn _ 24 #[16] _ _ (N+2)]++M)) (Wk.refl _) (by rw[dq,kK];rfl) (by simp[cK];omega) (Rh M .busy n4) (FS _) dM
   ·replace gf:lp=.ready:=gf;subst gf;unfold qT at he;split at he
    ·cases he;rfl
    ·cases he
   ·rcases SS.1 eT with h'|h'
    ·exact hz z (Tf _ h')
    ·have hl:=hz _ (S0 _ (Tc (i:=3) rfl));simp only[SK,SZ,or_false]at h';rcases h' with rfl|rfl|rfl|rfl
     ·exact hz _ (S0 _ (by simp))
     ·exact hz _ (S0 _ (by simp))
     ·exact hz _ (S0 _ (by simp))
     ·exact hl
  have FS:∀n,Lt n uU:=λn=>by simp[uU,aaO,tn]
  refine c9 (Jp (x:=x) (bk:=i) (ir:=N) (it:=N+1) (σ:=Lp.ready) hx hY (λlp L=> ?_) (λlp L=> ?_) pZ FS rfl (λa ha=>JM i pZ a ha) ?_)
  ·rw[SC];exact bg _ 0
  ·rw[SC];exact bg _ 1
  rw[O9];have bP:SD.wrap ((i:Int)+1)=((i+1:Nat):Int):=by rw[bB _ (by omega)];rfl
  by_cases Ft:(kq x i).any (λh=> !(jf x 0 h).isEmpty)=true
  ·rw[if_pos Ft];have Ke:vB x=true:=by
    unfold vB;rw[UI];exact⟨i,by rw[TP];omega,Ft⟩
   rw[Ke]at hk;simp only[fS,SN];(try simp only[seval,aiQ]);obtain⟨Y,vK⟩:=IH x H i [.cells x.l 76,.cells [iv i] 3,.gone,.loop l .busy none fn T 24 #[16] ag bo (N+2)];rw[<- hB]at vK;have hgo:iG ((N+2)::xa H i) (B++[.cells x.l 76,.cells [iv i] 3,.obj (.deferred (some [])),.loop l Lp.busy.st Lp.busy.pe fn T 24 #[16] ag bo (N+2)])=some (H++[.cells x.l 76,.cells [bv false] 4]++Y):=by
    rw[zx (by rw[bg];rfl),EC];exact vK
   refine dX hgo ?_;have dl:(H++[aa.cells x.l 76,.cells [bv false] 4]++Y)[H.length+1]?=some (.cells [bv false] 4):=(by rw[SC];exact ba H _ 1);refine aio dl λL=> ?_;have cL:((H++[aa.cells x.l 76,.cells [bv false] 4]++Y).set (H.length+1) (.cells [bv true] 4)++L)[H.length+1]?=some (.cells [bv true] 4):=by
    rw[SC,dJ,SC];exact ba H _ 1
   (try simp only[seval,gT,uX,cL,aa.cellsOf]);exact lh hH hk
  ·rw[if_neg Ft];simp only[fS,SN];refine⟨.ready,none,_,_,_,_,_,_,_,by show (B++_)[N+3]?=_;rw[bg];rfl,by decide,?_⟩;rw[show N+2+1=N+3 from rfl,EC,Ha];(try simp only[seval]);refine Ey ?_;refine aj ?_;simp only[seval,bP];refine⟨i+1,?_,⟨by omega,λj hj g hm=> ?_⟩,eo (by push_cast;simp only[seval];simp[bC,Wk.refl]) (by rw[hB];rfl),by rw[xa,hN]⟩
   ·show p+1-(i+1)<p+1-i;omega
   ·by_cases b9:j<i
    ·exact fi j b9 g hm
    ·have:j=i:=(by omega);subst this;apply Tt;intro aI;exact Ft (UI.2 ⟨g,hm,by simpa using aI⟩)
 ·
  have du:i=p+1:=by omega
  subst du;have Ke:vB x=false:=by
   unfold vB;rw[Bool.eq_false_iff];intro hc;obtain⟨j,h1,h2⟩:=UI.1 hc;obtain⟨h,h3,h4⟩:=UI.1 h2;rw[TP]at h1;have:=fi j (by omega) h h3;rw[this]at h4;cases h4
  rw[Ke]at hk;have Q7:(j_ x H (p+1))[H.length+1]?=some (.cells [bv false] 4):=by have:=xB [];rwa [SN]at this
  refine cp ?_;refine su ?_;refine aj ?_;simp only[seval,Q7];rw[qy Q7];refine Ey ?_;refine mU ?_;rw[aiR];obtain⟨Y,vK⟩:=IH x H (p+1) [];rw[SN]at vK;refine dX vK ?_;refine ain λL=> ?_;have cL:(H++[aa.cells x.l 76,.cells [bv false] 4]++Y++L)[H.length+1]?=some (.cells [bv false] 4):=by
   rw[SC,SC];exact ba H _ 1
  (try simp only[seval,gT,uX,cL,aa.cellsOf]);exact lh hH hk
end
open Go.Conc Go.Proofs Go.Gg.Tk
section
variable {lv:Bool}{H:List aa}{k kp:AV->List aa->Prop}
theorem sD{n lo hi:Int}(hk:k (bv (decide (n<lo)||decide (n>hi))) H):bm lv SA 59 H [iv n,iv lo,iv hi] k kp:=by
 refine bG (rs:=[.tmp 6]) (nt:=15) Tryz.f59 λhH hA=> ?_;simp only[br,SW];refine am ?_;by_cases h:n<lo
 ·have h1:decide (n<lo)=true:=by simpa using h
  refine aj ?_;simp only[seval,h1];refine bi ?_;rw[h1,ae']at hk;exact bX hk
 ·have h1:decide (n<lo)=false:=by simpa using h
  refine aj ?_;simp only[seval,h1];refine bi ?_;rw[h1,XT]at hk;exact bX hk
theorem Je{b:io}{hi e at':Int}(hb:qD b hi)(hk:k (.val .nilIface) H):bm lv SA 104 H [b.av,iv hi,iv e,iv at'] k kp:=by
 refine bG (rs:=[.tmp 8]) (nt:=33) Tryz.f104 λhH hA=> ?_;simp only[br,SW,io.av];have h1:(decide (b.min<0)||decide (b.min>hi))=false:=by have:=hb.min;have:=hb.le;have:=hb.max;simp;omega
 have h2:(decide (b.max<0)||decide (b.max>hi))=false:=by have:=hb.min;have:=hb.le;have:=hb.max;simp;omega
 have h3:decide (b.min>b.max)=false:=by have:=hb.le;simp;omega
 refine am ?_;refine aj ?_;simp only[seval,io.l];refine aL ((sD ?_));(try simp only[seval,h1]);refine aL ((sD ?_));(try simp only[seval,h2]);refine aF ?_;refine aj ?_;simp only[seval,h3];refine aF ?_;refine aO ?_;refine am ?_;refine bi ?_;exact lh hH hk
theorem ah3(hk:k (bv true) H):bm lv SA 52 H [] k kp:=by
 refine bG (rs:=[.tmp 0]) (nt:=1) Tryz.f52 λhH hA=> ?_;simp only[br,SW];refine am ?_;refine am ?_;refine bi ?_;exact bX hk
theorem ahu{t:AV}(hk:k (bv false) H):bm lv SA 105 H [.val .nilIface,t] k kp:=by
 refine bG (rs:=[.tmp 4]) (nt:=42) Tryz.f105 λhH hA=> ?_;simp only[br,SW];refine am ?_;refine aj ?_;simp only[seval,F.C0];refine aF ?_;refine am ?_;refine bi ?_;exact bX hk
theorem aii(hk:k (iv 0) H):bm lv SA 84 H [.val .nilIface] k kp:=by
 refine bG (rs:=[.tmp 2]) (nt:=9) Tryz.f84 λhH hA=> ?_;simp only[br,SW];refine am ?_;refine am ?_;refine aj ?_;simp only[seval,F.alx];refine aL ((ahu ?_));(try simp only[seval]);refine aF ?_;refine aO ?_;refine am ?_;refine bi ?_;exact lh hH hk
theorem aih{x:ak}{y:Seen}{at':Int}(hh:0<=y.hour/\y.hour<=x.hours)(hb:qD y.next 99)(hk:k (.val .nilIface) H):bm lv SA 83 H [x.av,y.av,iv at'] k kp:=by
 refine bG (rs:=[.tmp 6]) (nt:=19) Tryz.f83 λhH hA=> ?_;simp only[br,SW,ak.av,Seen.av];have bM:x.l=[iv x.first,iv x.hours,iv x.an,dC x.seen,aT x.pieces,aT x.aC]:=rfl;have h1:(decide (y.hour<0)||decide (y.hour>x.hours))=false:=by simp;omega
 refine aj ?_;simp only[seval,bM,Seen.l];refine am ?_;refine aL ((sD ?_));(try simp only[seval,h1]);refine aF ?_;refine aO ?_;refine am ?_;refine aL ((Je (b:=y.next) hb ?_));(try simp only[seval]);refine bi ?_;exact lh hH hk
theorem P4{x:ak}{l:List aD}(hx:x.Ok)(hl:∀y∈l,yR x y)(p9:l.length<=4)(hk:k (.val .nilIface) H):bm lv SA 85 H [x.av,aT l] k kp:=by
 refine bG (rs:=[.tmp 4]) (nt:=34) Tryz.f85 λhH hA=> ?_;simp only[br,SW,ak.av];have bM:x.l=[iv x.first,iv x.hours,iv x.an,dC x.seen,aT x.pieces,aT x.aC]:=rfl;have a_:∀(L:List aa),(H++L)[H.length]?=L[0]?:=λL=>ba H L 0;have FJ:=hx.hours;have x8:SD.wrap (x.hours-1)=x.hours-1:=bB _ (by omega);refine aj ?_;simp only[seval,bM];refine aj ?_;simp only[seval,aT];refine cP ?_;refine w7 l.length (λi:Nat=>[(11,iv i)]) (λ_=>_) (λi=>True) trivial (λcq dG i cR _ R hR=> ?_);refine am ?_;refine aF ?_;refine⟨λh=> ?_,λh=> ?_⟩
 ·have bF:i<l.length:=by omega
  obtain⟨y,hy⟩:=cj bF;have CX:=hl y (Tc hy);have bP:SD.wrap ((i:Int)+1)=((i+1:Nat):Int):=by rw[bB _ (by omega)];rfl
  refine aO ?_;refine aj ?_;simp only[seval,DE hy,jE bF];refine am ?_;refine aL ((Je (b:=y.number) CX.number ?_));(try simp only[seval]);refine aj ?_;simp only[seval,F.C0];refine aF ?_;refine aO ?_;refine aj ?_;simp only[seval,a_,x8];refine aL ((Je (b:=y.hour) CX.hour ?_));(try simp only[seval]);refine aj ?_;simp only[seval,F.C0];refine aF ?_;refine aO ?_;refine aj ?_;simp only[seval,bP];exact hR _ ⟨bF,trivial,AE (po rfl rfl) (by simp only[seval];simp[bC,Wk.refl]) cq (by simp[eC])⟩
 ·refine cp ?_;refine am ?_;refine bi ?_;exact lh hH hk
theorem Jl{x:ak}(hx:x.Ok)(hk:k (iv 0) H):bm lv SA 62 H [x.av] k kp:=by
 refine bG (rs:=[.tmp 2]) (nt:=62) Tryz.f62 λhH hA=> ?_;simp only[br,SW,ak.av];have bM:x.l=[iv x.first,iv x.hours,iv x.an,dC x.seen,aT x.pieces,aT x.aC]:=rfl;have a_:∀(L:List aa),(H++L)[H.length]?=L[0]?:=λL=>ba H L 0;have h1:(decide (x.first<0)||decide (x.first>90))=false:=by have:=hx.first;simp;omega
 have h2:(decide (x.hours<1)||decide (x.hours>3))=false:=by have:=hx.hours;simp;omega
 have h3:(decide (x.an<1)||decide (x.an>3))=false:=by have:=hx.an;simp;omega
 have g3:decide ((3:Int)<x.seen.length)=false:=by have:=hx.tE;simp;omega
 have g4:decide ((4:Int)<x.pieces.length)=false:=by have:=hx.dY;simp;omega
 have g5:decide ((3:Int)<x.aC.length)=false:=by have:=hx.di;simp;omega
 refine aj ?_;simp only[seval,bM];refine aj ?_;simp only[seval,a_];refine aL ((sD ?_));(try simp only[seval,h1,a_]);refine aL ((sD ?_));(try simp only[seval,h2,a_]);refine aL ((sD ?_));(try simp only[seval,h3]);refine aF ?_;refine aO ?_;refine aj ?_;simp only[seval,a_,dC,g3];refine aF ?_;refine aO ?_;refine aj ?_;simp only[seval,a_,dC];refine cP ?_;refine w7 x.seen.length (λi:Nat=>[(27,iv i)]) (λ_=>_) (λi=>True) trivial (λcq dG i cR _ R hR=> ?_);refine am ?_;refine aF ?_;refine⟨λh=> ?_,λh=> ?_⟩
 ·have bF:i<x.seen.length:=by omega
  obtain⟨y,hy⟩:=cj bF;have CX:=hx.seen y (Tc hy);have bP:SD.wrap ((i:Int)+1)=((i+1:Nat):Int):=by have:=hx.tE;rw[bB _ (by omega)];rfl
  refine aO ?_;refine aj ?_;simp only[seval,acv hy,jE bF];refine aj ?_;simp only[seval,a_];refine aL ((aih (x:=x) (y:=y) CX.1 CX.2 ?_));(try simp only[seval]);refine aj ?_;simp only[seval,F.C0];refine aF ?_;refine aO ?_;refine aj ?_;simp only[seval,bP];exact hR _ ⟨bF,trivial,AE (po rfl rfl) (by simp only[seval];simp[bC,Wk.refl]) cq (by simp[eC])⟩
 ·refine cp ?_;refine aj ?_;simp only[seval,a_,aT,g4];refine aF ?_;refine aO ?_;refine aj ?_;simp only[seval,a_];refine aL ((P4 (x:=x) (l:=x.pieces) hx hx.piece hx.dY ?_));(try simp only[seval]);refine aj ?_;simp only[seval,F.C0];refine aF ?_;refine aO ?_;refine aj ?_;simp only[seval,a_,g5];refine aF ?_;refine aO ?_;refine aj ?_;simp only[seval,a_];refine aL ((P4 (x:=x) (l:=x.aC) hx hx.stub (by have:=hx.di;omega) ?_));(try simp only[seval]);refine aL ((aii ?_));(try simp only[seval]);refine bi ?_;exact lh hH hk
end
def N7 (lv:Bool)(H:List aa)(f:AV)(b:Bool):Prop:=∀(L:List aa)(k kp:AV->List aa->Prop),k (bv b) (H++L)->iT lv SA f (H++L) [] k kp
def qB:List AV:=[iv 0,iv 0,iv 0,.sl 0 [] .exact,.sl 0 [] .exact,.sl 0 [] .exact]
def eV (D:Kn):Int:=if D.has then 0 else 11
theorem zq{x:ak}{deep:Int}{p:Nat}{H:List aa}{k kp:AV->List aa->Prop}{f:AV}{b:Bool}(hx:x.Ok)(hp:x.an=p)(hm:H[0]?=some .main)(hf:N7 true H f b)(iz:b=false->k (.aN [.agg qB,.agg jg,iv 3]) H)(cD:b=true->∀js D L mp,js.Perm (SV (p+1))->nO x deep js D->bJ D->H.length<=mp->(H++L)[mp]?=some (setH D.aK)->k (.aN [x.av,.agg (D.l mp),iv (eV D)]) (H++L)):bm true SA 51 H [x.av,iv deep,f] k kp:=by
 refine bG (rs:=[.cell 6 76,.cell 7 88,.tmp 8]) (nt:=36) Tryz.f51 λhH hA=> ?_;simp only[br,SW,ak.av];have bM:x.l=[iv x.first,iv x.hours,iv x.an,dC x.seen,aT x.pieces,aT x.aC]:=rfl;have a_:∀(L:List aa),(H++L)[H.length]?=L[0]?:=λL=>ba H L 0;have bY:∀(L:List aa),(H++L)[H.length+1]?=L[1]?:=λL=>ba H L 1;have jV:∀(L:List aa),(H++L)[H.length+2]?=L[2]?:=λL=>ba H L 2;refine am ?_;refine aj ?_;simp only[seval,a_,bM];refine aL ((Jl (x:=x) hx ?_));(try simp only[seval]);refine am ?_;refine aF ?_;refine aO ?_;refine am ?_;refine w_ (hf _ _ _ ?_);(try simp only[seval]);refine aF ?_;refine⟨λhb=> ?_,λhb=> ?_⟩
 ·have dD:b=false:=by simpa using hb
  have:=iz dD;refine am ?_;refine mU ?_;simp only[seval,bY,jV];exact jm hH (Wk.refl _) (by simp[jx,tn,eC,qB,jg,Ms]) this
 ·have dD:b=true:=by simpa using hb
  refine aO ?_;refine aj ?_;simp only[seval,a_];refine⟨⟨rfl,rfl,rfl⟩,?_⟩;have zN:∀(L:List aa),(H++L)[H.length+3]?=L[3]?:=λL=>ba H L 3;refine aj ?_;simp only[seval,zN];refine aL ((aie (x:=x) hx (DT hx) hp (fH hm) λjs D L5 iy jq dW hl5=> ?_));have fg:=λmp=>Kn.len dW mp;have jZ:=uN D;obtain⟨z0,z1,z2,z3,z4,rfl⟩:∃z0 z1 z2 z3 z4,L5=[z0,z1,z2,z3,z4]:=by
   match L5,hl5 with
   |[a,b,c,d,e],_=>exact⟨a,b,c,d,e,rfl⟩
  (try simp only[seval,fg]);refine⟨jZ _,?_⟩;have fY:∀(L:List aa)(j:Nat),(H++L)[H.length+j]?=L[j]?:=λL j=>ba H L j;have Ae:∀(L:List aa)(j:Nat)(y:aa),(H++L).set (H.length+j) y=H++L.set j y:=λL j y=>dJ H L j y;have ajR:∀(L:List aa),(H++L)[H.length+10]?=L[10]?:=λL=>ba H L 10;obtain⟨mp,sV⟩:∃mp,mp=H.length+4+5:=⟨_,rfl⟩;rw[<- sV];refine aj ?_;simp only[seval,ajR,Kn.B1];obtain⟨jJ,eR⟩:∃jJ:List AV->List AV->List aa,∀u v,jJ u v=H++[.cells x.l 26,.cells u 76,.cells v 88,.cells x.l 76,z0,z1,z2,z3,z4,setH D.aK,.cells (D.l mp) 88]:=⟨_,λ_ _=>rfl⟩;have p1:∀u v,(jJ u v)[H.length+1]?=some (.cells u 76):=λu v=>by rw[eR,fY];rfl
  have p2:∀u v,(jJ u v)[H.length+2]?=some (.cells v 88):=λu v=>by rw[eR,fY];rfl
  have p3:∀u v,(jJ u v)[H.length+3]?=some (.cells x.l 76):=λu v=>by rw[eR,fY];rfl
  have p10:∀u v,(jJ u v)[H.length+10]?=some (.cells (D.l mp) 88):=λu v=>by rw[eR,fY];rfl
  have s1:∀u v w,(jJ u v).set (H.length+1) (.cells w 76)=jJ w v:=λu v w=>by rw[eR,Ae,eR];rfl
  have s2:∀u v w,(jJ u v).set (H.length+2) (.cells w 88)=jJ u w:=λu v w=>by rw[eR,Ae,eR];rfl
  have dV:∀(e:Int),e=eV D->k (.aN [x.av,.agg (D.l mp),iv e]) (jJ x.l (D.l mp)):=λe he=>by
   rw[he,eR];refine cD dD js D _ mp iy jq dW (by omega) ?_;rw[sV,show H.length+4+5=H.length+9 from rfl,fY];rfl
  have e0:=eR qB jg;simp only[qB,jg,bM,iv,bv,wv,TF,U1,Uy,push_cast,Int.cast_ofNat_Int]at e0;rw[<- e0];clear e0;have dw:x.l.length=6:=rfl;have kV:jg.length=28:=rfl;have hzr:qB.length=6:=rfl;have gh:TH 6 x.l=x.l:=rfl;have Gb:TH 28 (D.l mp)=D.l mp:=SP (by rw[fg];exact SQ _);have vT:∀l:List AV,l.length=28->D.l mp++TR (D.l mp).length l=D.l mp:=λl hl=>by rw[fg,TW (by omega),SN]
  have aai:∀a∈x.l,a.leaf=true:=λa ha=>by
   simp only[ak.l,SK,SZ,or_false]at ha;rcases ha with rfl|rfl|rfl|rfl|rfl|rfl<;>rfl
  refine aF ?_;refine⟨λhh=> ?_,λhh=> ?_⟩
  ·have JQ:D.has=false:=(by simpa using hh);have:=dV 11 (by rw[eV,JQ];rfl);refine nU [2,3] [0,1,2,3,4] (λD'=>bif isDone 3 D' then jJ x.l (D.l mp)else bif isDone 2 D' then jJ x.l jg else jJ qB jg) ?_;simp only[seval,p1,p2,p3,p10,s1,s2,fg,dw,kV,hzr,jZ];rw[gh,Gb];refine⟨rfl,SQ _,aai,rfl,fg _,by rw[fg];exact SQ _,jZ _,by rw[vT _ rfl];rfl,?_⟩;refine mU ?_;simp only[seval,p1,p2,fg];rw[Gb];refine dX (a:=[x.av,.agg (D.l mp),iv 11]) rfl ?_;exact bX this
  ·have JQ:D.has=true:=(by simpa using hh);have:=dV 0 (by rw[eV,JQ];rfl);refine aO ?_;refine nU [2,3] [0,1,2,3,4] (λD'=>bif isDone 3 D' then jJ x.l (D.l mp)else bif isDone 2 D' then jJ x.l jg else jJ qB jg) ?_;simp only[seval,p1,p2,p3,p10,s1,s2,fg,dw,kV,hzr,jZ];rw[gh,Gb];refine⟨rfl,SQ _,aai,rfl,fg _,by rw[fg];exact SQ _,jZ _,by rw[vT _ rfl];rfl,?_⟩;refine mU ?_;simp only[seval,p1,p2,fg];rw[Gb];refine dX (a:=[x.av,.agg (D.l mp),iv 0]) rfl ?_;exact bX this
namespace Tk
def fA (s:Nat)(more:Int)(i:Nat):List Int:=((SV i).filter s.testBit).map λn:Nat=>(n:Int)+more
theorem aaK(s:Nat)(more:Int)(i:Nat):fA s more (i+1)=if s.testBit i then fA s more i++[(i:Int)+more]else fA s more i:=by
 unfold fA;rw[Vk,List.filter_append,TE];by_cases h:s.testBit i=true
 ·simp[h]
 ·simp[h]
theorem Mn(s:Nat)(more:Int)(i:Nat):(fA s more i).length<=i:=by
 unfold fA;rw[Tn];exact UL (List.length_filter_le _ _) (by simp)
end Tk
theorem z1:gH (SF .i64 0) 1=[iv 0]:=rfl
section
variable {lv:Bool}{H:List aa}{k kp:AV->List aa->Prop}
theorem Jj{s:Nat}{more:Int}(hs:s<65536)(hm:0<=more/\more<=1000)(hk:k (bu (fA s more 16)) H):bm lv SA 56 H [wv s,iv more] k kp:=by
 refine bG (rs:=[.tmp 4]) (nt:=21) Tryz.f56 λhH hA=> ?_;simp only[br,SW];refine am ?_;refine am ?_
 (repeat apply iF);refine vt (t:=5) (sz:=1) (el:=3) (by simp only[seval]<;>rfl) ?_
 refine am ?_;refine cP ?_;refine iu 16 (λi:Nat=>[(5,.sl (fA s more i).length ((fA s more i).map iv) (.opn H.length)),(7,iv i)]) (λi=>H++[.tail (fA s more i).length 1 3]) (λ_=>True) (λ_ _=>rfl) (by simp only[seval];simp[bC,Wk.refl];exact Wk.refl _) rfl (λ_ _ _=>by simp) trivial (λcq dG i cR hi R hR=> ?_);refine am ?_;refine aF ?_;refine⟨λh=> ?_,λh=> ?_⟩
 ·have hl:i<16:=by omega
  have fJ:SD.wrap ((i:Int)+1)=((i+1:Nat):Int):=by rw[bB _ (by omega)];rfl
  have us:SD.wrap ((i:Int)+more)=(i:Int)+more:=bB _ (by omega);have hO:=Mn s more i;refine aO ?_;refine am ?_;refine am ?_;refine aL ((xh hs ?_));(try simp only[seval]);refine aF ?_;refine⟨λhb=> ?_,λhb=> ?_⟩
  ·refine aj ?_;simp only[seval,z1,us]
   first|refine⟨by decide,by omega,?_⟩|refine⟨by omega,?_⟩
   refine aj ?_;simp only[seval,fJ];have c_:fA s more (i+1)=fA s more i++[(i:Int)+more]:=(by rw[aaK,if_pos hb]);refine hR _ ⟨hl,trivial,?_⟩;rw[c_,TE,S4];exact dF
  ·refine aO ?_;refine aj ?_;simp only[seval,fJ];have c_:fA s more (i+1)=fA s more i:=(by rw[aaK,if_neg (by simpa using hb)]);refine hR _ ⟨hl,trivial,?_⟩;rw[c_];exact dF
 ·refine cp ?_;have:i=16:=by omega
  subst this;refine am ?_;refine bi ?_;rw[bu]at hk;exact jm hH (gV _ _ _) (by simp[uT,eC]) hk
theorem aig{x:ak}{n:Int}{ir:Nat}(hx:x.Ok)(hr:H[ir]?=some (.cells x.l 26))(hk:k (bv (decide (n<0)||decide (n>(x.pieces.length:Int)-1))) H):bm lv SA 82 H [iv n,.op ir 0] k kp:=by
 refine bG (rs:=[.tmp 3]) (nt:=10) Tryz.f82 λhH hA=> ?_;simp only[br,SW];have bM:x.l=[iv x.first,iv x.hours,iv x.an,dC x.seen,aT x.pieces,aT x.aC]:=rfl;have lz:=hx.dY;have hw:SD.wrap ((x.pieces.length:Int)-1)=(x.pieces.length:Int)-1:=bB _ (by omega);refine am ?_;refine aj ?_;simp only[seval,hr,bM,aT,hw];refine aL ((sD ?_));(try simp only[seval]);refine bi ?_;exact bX hk
theorem aht{ns:List Int}{f:AV}{e:End}(iA:ns.length<=4)(g:Int->Bool)(hf:∀n∈ns,∀(k kp:AV->List aa->Prop),k (bv (g n)) H->iT lv SA f H [iv n] k kp)(hk:k (iv (match ns.findIdx? g with|some i=>(i:Int)|none=> -1)) H):bm lv SA 103 H [.sl ns.length (ns.map iv) e,f] k kp:=by
 refine bG (rs:=[.tmp 4]) (nt:=19) Tryz.f103 λhH hA=> ?_;simp only[br,SW];refine am ?_;refine am ?_;refine cP ?_;refine w7 ns.length (λi:Nat=>[(8,iv i)]) (λ_=>_) (λi=>∀n∈ns.take i,g n=false) (by simp) (λcq dG i cR hi R hR=> ?_);refine am ?_;refine aF ?_;refine⟨λh=> ?_,λh=> ?_⟩
 ·have bF:i<ns.length:=by omega
  obtain⟨n,hn⟩:=cj bF;have fJ:SD.wrap ((i:Int)+1)=((i+1:Nat):Int):=by rw[bB _ (by omega)];rfl
  refine aO ?_;refine am ?_;refine aj ?_;simp only[seval,e_ hn,jE bF];refine w_ (hf n (Tc hn) _ _ ?_);(try simp only[seval]);refine aF ?_;refine⟨λhg=> ?_,λhg=> ?_⟩
  ·refine am ?_;refine bi ?_;have:ns.findIdx? g=some i:=by
    rw[Xt];refine⟨bF,?_,λj hj=> ?_⟩
    ·rw[SY bF]at hn;cases hn;exact hg
    ·have:=hi ns[j] (by rw[List.mem_take_iff_getElem];exact⟨j,by omega,rfl⟩);simp[this]
   rw[this]at hk;exact bX hk
  ·refine aO ?_;refine aj ?_;simp only[seval,fJ];refine hR _ ⟨bF,λm hm=> ?_,dF⟩;rw[VF,hn]at hm;rcases SS.1 hm with h'|h'
   ·exact hi m h'
   ·simp at h';rw[h'];simpa using hg
 ·have:i=ns.length:=by omega
  subst this;rw[TO]at hi;refine cp ?_;refine am ?_;refine bi ?_;have:ns.findIdx? g=none:=by rw[Ye];exactλn hn=>hi n hn
  rw[this]at hk;exact bX hk
theorem aif{ns:List Int}{f:AV}{e:End}(iA:ns.length<=4)(g:Int->Bool)(hf:∀n∈ns,∀(k kp:AV->List aa->Prop),k (bv (g n)) H->iT lv SA f H [iv n] k kp)(hk:k (bv (ns.any g)) H):bm lv SA 81 H [.sl ns.length (ns.map iv) e,f] k kp:=by
 refine bG (rs:=[.tmp 4]) (nt:=9) Tryz.f81 λhH hA=> ?_;simp only[br,SW];refine am ?_;refine am ?_;refine aL ((aht iA g hf ?_));(try simp only[seval]);refine bi ?_;refine bX ?_;have:decide ((match ns.findIdx? g with|some i=>(i:Int)|none=> -1)>=0)=ns.any g:=by
  cases h:ns.findIdx? g with
  |none=>
   rw[Ye]at h;have:ns.any g=false:=by
    rw[List.any_eq_false];exactλn hn=>by simp[h n hn]
   rw[this];rfl
  |some i=>
   rw[Xt]at h;obtain⟨h1,h2,_⟩:=h;have:ns.any g=true:=UI.2 ⟨ns[i],Wr h1,h2⟩;rw[this];simp
 rw[this];exact hk
def yq (x:ak)(ns:List Int):Bool:= !(ns.any λn=>decide (n<0)||decide (n>(x.pieces.length:Int)-1))
theorem Jo{x:ak}{ns:List Int}{e:End}{il ir:Nat}(hx:x.Ok)(iA:ns.length<=4)(hl:H[il]?=some (.cells [.sl ns.length (ns.map iv) e] 22))(hr:H[ir]?=some (.cells x.l 26))(hk:k (bv (yq x ns)) H):bm lv SA 80 H [.op il 0,.op ir 0] k kp:=by
 refine bG (rs:=[.tmp 2]) (nt:=7) Tryz.f80 λhH hA=> ?_;simp only[br,SW];refine am ?_;refine aj ?_;simp only[seval,hl,Ua,UC,Uj,TN];refine aL ((aif (ns:=ns) iA (λn=>decide (n<0)||decide (n>(x.pieces.length:Int)-1)) (λn hn k kp hk=> ?_) ?_))
 ·exact c9 (aig hx hr hk)
 (try simp only[seval]);refine bi ?_;exact bX hk
theorem Jk{x:ak}{ns:List Int}{e:End}(hk:k (.fn (.func 80) [] [.op (H.length+1) 0,.op H.length 0]) (H++[.cells x.l 26,.cells [.sl ns.length (ns.map iv) e] 22])):bm lv SA 58 H [x.av,.sl ns.length (ns.map iv) e] k kp:=by
 refine bG (rs:=[.tmp 4]) (nt:=6) Tryz.f58 λhH hA=> ?_;simp only[br,SW,ak.av];refine am ?_;refine aj ?_;simp only[seval,Ua,UC,Uj,TN];refine bi ?_;exact bX hk
end
open Go.Conc Go.Proofs Go.Gg.Tk
structure aZ where
 aB:List Int
 g:Int
 s:Int
def u9 (τ:aZ):aa:=.cells [bu τ.aB,.val (.int .i64 τ.g),.val (.int .u64 τ.s)] 73
def HY (a b:Int):Int:=Tx.wrap (Ui Tx.bits a^^^Ui Tx.bits b).toNat
def adu (g:Int):Int:=Tx.wrap (Tx.wrap (Tx.wrap g* 15074714826142052245)+11400714819323198485)
def NR (τ:aZ):Int:=match τ.aB[τ.g.toNat]?with
 |some x=>HY (adu τ.g) (Tx.wrap (Tx.wrap x* 12620523164723586485))
 |none=>adu τ.g
def am1 (s w:Int):Int:=Tx.wrap (Tx.wrap (s+w)* 13787848793156543929)
def am2 (s:Int):Int:=HY s (s.fdiv (2^min 31 Tx.bits))
def G7 (s:Int):Int:=(HY s (s.fdiv (2^min 27 Tx.bits))).fdiv (2^min 9 Tx.bits)
def tick (τ:aZ):aZ:=⟨τ.aB,τ.g+1,am2 (am1 τ.s (NR τ))⟩
def ww (τ:aZ):Int:=G7 (Tx.wrap ((tick τ).s* 10723151780598845931))
theorem adm(n:Int)(h0:0<=n)(h:n<2^64):Tx.wrap n=n:=by
 have h1:Tx.bits=64:=rfl;have h2:Tx.signed=false:=rfl;unfold Xa;rw[h1,h2];simp;omega
theorem arF(n:Int):0<=Tx.wrap n/\Tx.wrap n<2^64:=by
 have h1:Tx.bits=64:=rfl;have h2:Tx.signed=false:=rfl;unfold Xa;rw[h1,h2];simp;omega
theorem abt(s:Int):0<=G7 s/\G7 s<2^55:=by
 unfold G7 HY;have h:=arF (Ui Tx.bits s^^^Ui Tx.bits (s.fdiv (2^min 27 Tx.bits))).toNat;have e:(2:Int)^min 9 Tx.bits=512:=by decide
 rw[e,Int.fdiv_eq_ediv_of_nonneg _ (show (0:Int)<=512 by decide)];omega
def cU (τ:aZ)(n:Int):Int:=if n<1 then 0 else(ww τ).tmod (n+1)
theorem jM(τ:aZ)(n:Int):0<=cU τ n/\(cU τ n<=n\/cU τ n=0):=by
 unfold cU;split
 ·omega
 ·have h:=(abt (Tx.wrap ((tick τ).s* 10723151780598845931))).1;have h1:=Int.tmod_nonneg (n+1) h;have h2:=Int.tmod_lt_of_pos (ww τ) (show 0<n+1 by omega);unfold ww at h2⊢;omega
def wK (τ:aZ)(lo hi:Int):Int:=lo+cU τ (hi-lo)
theorem HK(τ:aZ){lo hi:Int}(h:lo<=hi):lo<=wK τ lo hi/\wK τ lo hi<=hi:=by
 have:=jM τ (hi-lo);unfold wK;omega
def ao6 (τ:aZ)(n:Int):Bool:=cU τ (n-1)==0
structure dB (Gf:aZ->List aa)(t N:Nat):Prop where
 len:∀τ,(Gf τ).length=N
 get:∀τ,(Gf τ)[t]?=some (u9 τ)
 set:∀τ τ',(Gf τ).set t (u9 τ')=Gf τ'
 ok:∀m τ τ',(∀z∈Gf τ,eK m z)->∀z∈Gf τ',eK m z
theorem dB.more{Gf:aZ->List aa}{t N:Nat}(h:dB Gf t N)(L:List aa):dB (λτ=>Gf τ++L) t (N+L.length)where
 len:=λτ=>by simp[h.len]
 get:=λτ=>fH (h.get τ)
 set:=λτ τ'=>by show (Gf τ++L).set t _=_;rw[US _ _ (eI (h.get τ)),h.set]
 ok:=λm τ τ' hk z hz=>(SS.1 hz).elim (λhz=>h.ok m τ τ' (λv hv=>hk v (Tf _ hv)) z hz) (λhz=>hk z (S0 _ hz))
theorem dB.ay{Gf:aZ->List aa}{t N:Nat}(h:dB Gf t N){τ:aZ}(hH:bH (Gf τ))(τ':aZ):bH (Gf τ'):=λz hz=>by
 have:=h.ok N τ τ' (λw hw=>by have:=hH w hw;rwa [h.len]at this) z hz;rwa [h.len]
section
variable {Gf:aZ->List aa}{t N:Nat}(h:dB Gf t N)
include h
theorem dB.g0(τ:aZ)(L:List aa):(Gf τ++L)[N]?=L[0]?:=by have:=vo (Gf τ) L 0;rwa [h.len]at this
theorem dB.g1(τ:aZ)(L:List aa):(Gf τ++L)[N+1]?=L[1]?:=by have:=vo (Gf τ) L 1;rwa [h.len]at this
theorem dB.g2(τ:aZ)(L:List aa):(Gf τ++L)[N+1+1]?=L[2]?:=by have:=vo (Gf τ) L 2;rwa [h.len]at this
theorem dB.g3(τ:aZ)(L:List aa):(Gf τ++L)[N+1+1+1]?=L[3]?:=by have:=vo (Gf τ) L 3;rwa [h.len]at this
theorem dB.h2(τ:aZ)(L:List aa):(Gf τ++L)[N+2]?=L[2]?:=h.g2 τ L
theorem dB.h3(τ:aZ)(L:List aa):(Gf τ++L)[N+3]?=L[3]?:=h.g3 τ L
theorem dB.s0(τ:aZ)(L:List aa)(x:aa):(Gf τ++L).set N x=Gf τ++L.set 0 x:=by have:=vp (Gf τ) L 0 x;rwa [h.len]at this
theorem dB.s1(τ:aZ)(L:List aa)(x:aa):(Gf τ++L).set (N+1) x=Gf τ++L.set 1 x:=by have:=vp (Gf τ) L 1 x;rwa [h.len]at this
theorem dB.s2(τ:aZ)(L:List aa)(x:aa):(Gf τ++L).set (N+1+1) x=Gf τ++L.set 2 x:=by have:=vp (Gf τ) L 2 x;rwa [h.len]at this
theorem dB.s3(τ:aZ)(L:List aa)(x:aa):(Gf τ++L).set (N+1+1+1) x=Gf τ++L.set 3 x:=by have:=vp (Gf τ) L 3 x;rwa [h.len]at this
theorem dB.t2(τ:aZ)(L:List aa)(x:aa):(Gf τ++L).set (N+2) x=Gf τ++L.set 2 x:=h.s2 τ L x
theorem dB.t3(τ:aZ)(L:List aa)(x:aa):(Gf τ++L).set (N+3) x=Gf τ++L.set 3 x:=h.s3 τ L x
end
theorem anA(m:Nat)(τ:aZ):eK m (u9 τ):=by
 intro a ha;simp only[SK,SZ,or_false]at ha;rcases ha with rfl|rfl|rfl
 ·rw[yh];trivial
 ·exact .val _
 ·exact .val _
theorem arn(H:List aa):dB (λτ=>H++[u9 τ]) H.length (H.length+1)where
 len:=λτ=>by simp
 get:=λτ=>by simp
 set:=λτ τ'=>by simp
 ok:=λm τ τ' hk z hz=>by
  rcases SS.1 hz with hz|hz
  ·exact hk z (Tf _ hz)
  ·rw[S8.1 hz];exact anA _ _
structure aZ.Ok (τ:aZ)(b:Int):Prop where
 g0:0<=τ.g
 g:τ.g<=b
 len:τ.aB.length<=2^50
section
variable {lv:Bool}{H:List aa}{k kp:AV->List aa->Prop}{Gf:aZ->List aa}{t N:Nat}{τ:aZ}{b:Int}
theorem ahJ{aB:List Int}(hk:k (.op H.length 0) (H++[u9 ⟨aB,0,7640891576956012809⟩])):bm lv SA 16 H [bu aB] k kp:=by
 refine bG (rs:=[.tmp 2]) (nt:=6) Tryz.f16 λhH hA=> ?_;simp only[br,SW];refine am ?_;refine am ?_;refine bi ?_;exact bX hk
theorem aZ.Ok.tick(h:τ.Ok b):(tick τ).Ok (b+1):=⟨by have:=h.g0;show 0<=τ.g+1;omega,by have:=h.g;show τ.g+1<=b+1;omega,h.len⟩
theorem aZ.Ok.mono{b':Int}(h:τ.Ok b)(hb:b<=b'):τ.Ok b':=⟨h.g0,by have:=h.g;omega,h.len⟩
theorem ah6(hT:dB Gf t N)(hτ:τ.Ok b)(hb:b<2^60)(hk:k (.val (.int .u64 (ww τ))) (Gf (tick τ))):bm lv SA 55 (Gf τ) [.op t 0] k kp:=by
 obtain⟨aB,g,s⟩:=τ;obtain⟨lr,hgb,RP⟩:=hτ;simp only at lr hgb RP;refine bG (rs:=[.tmp 2]) (nt:=76) Tryz.f55 λhH hA=> ?_;simp only[br,SW];have hg:∀τ,(Gf τ)[t]?=some (.cells [.sl τ.aB.length (τ.aB.map iv) .shut,.val (.int .i64 τ.g),.val (.int .u64 τ.s)] 73):=hT.get;have hs:∀τ (Dk:List Int) g' s',(Gf τ).set t (.cells [.sl Dk.length (Dk.map iv) .shut,.val (.int .i64 g'),.val (.int .u64 s')] 73)=Gf ⟨Dk,g',s'⟩:=λτ Dk g' s'=>hT.set τ ⟨Dk,g',s'⟩;obtain⟨n,rfl⟩:∃n:Nat,g=n:=⟨g.toNat,by omega⟩;have hw:SD.wrap ((n:Int)+1)=n+1:=bB _ (by omega);refine am ?_;refine aj ?_;simp only[seval,hg];refine eM 9 ?_;simp only[seval,hg];refine aF ?_;refine⟨λh=> ?_,λh=> ?_⟩
 ·have ju:n<aB.length:=by simpa using h
  obtain⟨x,hx⟩:=cj ju;refine eM 13 ?_;simp only[seval,hg,e_ hx,jE ju,Bw];refine aj ?_;simp only[seval,hg,hw,hs];refine aj ?_;simp only[seval,hg,hs];refine eM 11 ?_;simp only[seval,hg,hs,Bv,Bw];refine aj ?_;simp only[seval,hg];refine aj ?_;simp only[seval,Bv,Bw];refine bi ?_;refine bX ?_;unfold ww tick NR at hk;simp only[VO,hx]at hk;exact hk
 ·have ju:¬n<aB.length:=by simpa using h
  have hx:aB[n]?=none:=by rw[Uv];omega
  refine aO ?_;refine aj ?_;simp only[seval,hg,hw,hs];refine aj ?_;simp only[seval,hg,hs];refine eM 11 ?_;simp only[seval,hg,hs,Bv,Bw];refine aj ?_;simp only[seval,hg];refine aj ?_;simp only[seval,Bv,Bw];refine bi ?_;refine bX ?_;unfold ww tick NR at hk;simp only[VO,hx]at hk;exact hk
theorem my{n:Int}(hT:dB Gf t N)(hτ:τ.Ok b)(hb:b<2^60)(hn:n<2^60)(hk:k (iv (cU τ n)) (Gf (tick τ))):bm lv SA 25 (Gf τ) [.op t 0,iv n] k kp:=by
 refine bG (rs:=[.tmp 4]) (nt:=16) Tryz.f25 λhH hA=> ?_;simp only[br,SW];refine am ?_;refine am ?_;refine aL ((ah6 hT hτ hb ?_));(try simp only[seval]);refine am ?_;refine aF ?_;refine⟨λh=> ?_,λh=> ?_⟩
 ·have h:n<1:=by simpa using h
  refine am ?_;refine bi ?_;rw[cU,if_pos h]at hk;exact bX hk
 ·have h:¬n<1:=by simpa using h
  have ho:=abt (Tx.wrap ((tick τ).s* 10723151780598845931));have bP:Tx.wrap n=n:=adm n (by omega) (by omega);have gF:Tx.wrap (n+1)=n+1:=adm _ (by omega) (by omega);have ou:n+1≠0:=by omega
  have hr:=jM τ n;rw[cU,if_neg h]at hk hr;have wa:SD.wrap ((ww τ).tmod (n+1))=(ww τ).tmod (n+1):=bB _ (by omega);refine aO ?_;refine aj ?_;simp only[seval,aev,bP,gF,wa,ou];refine bi ?_;exact bX hk
theorem EP{lo hi:Int}(hT:dB Gf t N)(hτ:τ.Ok b)(hb:b<2^60)(o0:0<=lo/\lo<2^20)(FH: -1<=hi/\hi<2^20)(hk:k (iv (wK τ lo hi)) (Gf (tick τ))):bm lv SA 23 (Gf τ) [.op t 0,iv lo,iv hi] k kp:=by
 refine bG (rs:=[.tmp 6]) (nt:=14) Tryz.f23 λhH hA=> ?_;simp only[br,SW];have bP:SD.wrap (hi-lo)=hi-lo:=bB _ (by omega);have hr:=jM τ (hi-lo);have gF:SD.wrap (lo+cU τ (hi-lo))=lo+cU τ (hi-lo):=bB _ (by omega);refine am ?_;refine aj ?_;simp only[seval,bP];refine aL ((my hT hτ hb (by omega) ?_));(try simp only[seval,gF]);refine bi ?_;exact bX hk
theorem EQ{n:Int}(hT:dB Gf t N)(hτ:τ.Ok b)(hb:b<2^60)(hn:0<=n/\n<2^20)(hk:k (bv (ao6 τ n)) (Gf (tick τ))):bm lv SA 46 (Gf τ) [.op t 0,iv n] k kp:=by
 refine bG (rs:=[.tmp 4]) (nt:=10) Tryz.f46 λhH hA=> ?_;simp only[br,SW];have bP:SD.wrap (n-1)=n-1:=bB _ (by omega);refine am ?_;refine aj ?_;simp only[seval,bP];refine aL ((my hT hτ hb (by omega) ?_));(try simp only[seval]);refine bi ?_;exact bX hk
end
theorem wq{α:Type}{xs:List α}{i:Nat}{x:α}(h:xs[i]?=some x):x∈xs:=Tc h
section
variable {lv:Bool}{H:List aa}{k kp:AV->List aa->Prop}
inductive so:List AV->List AV->Prop
 |nil:so [] []
 |cons {a b:AV} {l m:List AV} (h:Wk a b) (t:so l m):so (a::l) (b::m)
theorem so.len{l m:List AV}(h:so l m):l.length=m.length:=by
 induction h with
 |nil=>rfl
 |cons _ _ ih=>simp[ih]
theorem so.at{l m:List AV}(h:so l m):∀(i:Nat)(a b:AV),m[i]?=some a->l[i]?=some b->Wk b a:=by
 induction h with
 |nil=>intro i a b h;simp at h
 |cons h _ ih=>
  intro i a b h1 h2
  match i with
  |0=>cases h1;cases h2;exact h
  |i+1=>exact ih i a b h1 h2
theorem DZ{l l':List AV}(h:so l l'):Wk (.agg l) (.agg l'):=λE v hd=>by
 cases hd with
 |agg hs h1=>
  refine .agg (by rw[hs,h.len]) λi x hx=> ?_;obtain⟨y,hy⟩:=cj (xs:=l) (i:=i) (by rw[h.len];exact eI hx);exact h.at i x y hx hy E _ (h1 i y hy)
theorem NQ{n:Nat}{l l':List AV}{e:End}(hl:l.length=l'.length)(h:∀(i:Nat) a b,l'[i]?=some a->l[i]?=some b->Wk b a):Wk (.sl n l e) (.sl n l' e):=λE v hd=>by
 cases hd with
 |sl b o cap f hc he h1 h2=>
  refine .sl b o cap f hc he (λi hi=>h1 i (by omega)) λi x hx=> ?_;obtain⟨y,hy⟩:=cj (xs:=l) (i:=i) (by have:=eI hx;omega);exact h i x y hx hy E _ (h2 i y hy)
 |nil he=>
  have:l'=[]:=VA hl.symm;subst this;exact .nil he
theorem ML:(1<=2^24)=True:=by simp
theorem FW{H L:List aa}(h:bH H)(hL:∀z∈L,∀n,eK n z):bH (H++L):=λz hz=>by
 rcases SS.1 hz with h'|h'
 ·exact(h z h').mono (by simp)
 ·exact hL z h' _
theorem Hl{base Vi Vn T:List (Nat×AV)}{H H':List aa}(G:List aa)(hk:sg T (Vi++base) Vn)(hv:∀p∈Vn,∃b,look T p.1=some b/\Wk b p.2)(ay:bH H)(hlt:∀p∈Vn,Lt H.length p.2)(hG:H'=H++G):qM base Vi Vn H ⟨T,H'⟩:=⟨hk,hv,G,hG,.inr ⟨ay,hlt⟩⟩
theorem aq7{xs ys:List Int}{i:Nat}{x y:Int}(hx:xs[i]?=some x)(hy:ys[i]?=some y)(h:xs.take i=ys.take i)(e:x=y):xs.take (i+1)=ys.take (i+1):=by
 obtain⟨hj,rfl⟩:=SL.1 hx;obtain⟨hk,rfl⟩:=SL.1 hy;rw[XI hj,XI hk,h,e]
theorem zp{xs ys:List Int}{e e':End}(hx:xs.length<2^60)(hk:k (bv (decide (xs=ys))) H):bm lv SA 20 H [.sl xs.length (xs.map iv) e,.sl ys.length (ys.map iv) e'] k kp:=by
 refine bG (rs:=[.tmp 4]) (nt:=26) Tryz.f20 λhH hA=> ?_;simp only[br,SW];refine am ?_;refine am ?_;refine aF ?_;refine⟨λh=> ?_,λh=> ?_⟩
 ·have h:xs≠ys:=λe=>by subst e;simp at h
  refine am ?_;refine bi ?_;rw[decide_eq_false h]at hk;exact bX hk
 ·have h:xs.length=ys.length:=by
   have h:(xs.length:Int)=ys.length:=(by simpa using h);omega
  refine aO ?_;refine am ?_;refine cP ?_;refine w7 xs.length (λi:Nat=>[(5,iv i)]) (λ_=>_) (λi=>xs.take i=ys.take i) (by simp) (λcq dG i cR hi R hR=> ?_);refine am ?_;refine aF ?_;refine⟨λh2=> ?_,λh2=> ?_⟩
  ·have hlt:i<xs.length:=(by omega);obtain⟨x,CV⟩:=cj hlt;obtain⟨y,uH⟩:=cj (xs:=ys) (i:=i) (by omega);refine aO ?_;refine cP ?_;refine eM 8 ?_;simp only[seval,e_ CV,e_ uH,jE hlt,jE (eI uH)];refine aF ?_;refine⟨λh3=> ?_,λh3=> ?_⟩
   ·have h3:xs≠ys:=λe=>(by subst e;rw[CV]at uH;cases uH;simp at h3);refine am ?_;refine bi ?_;rw[decide_eq_false h3]at hk;exact bX hk
   ·have h3:x=y:=(by simpa using h3);refine aO ?_;refine am ?_;refine hR _ ⟨hlt,aq7 CV uH hi h3,?_⟩;rw[bB _ (by omega)];exact dF
  ·have jp:i=xs.length:=(by omega);refine cp ?_;refine am ?_;refine bi ?_;have h3:xs=ys:=by
    rw[jp,TO]at hi;rw[hi,h,TO]
   rw[decide_eq_true h3]at hk;exact bX hk
end
def fF (x:ak)(deep:Int)(D:Kn):Prop:=∃(p:Nat)(js:List Nat),x.an=p/\js.Perm (SV (p+1))/\nO x deep js D/\bJ D
theorem tC(x:ak):∀a∈x.l,a.leaf=true:=λa ha=>by
 simp only[ak.l,SK,SZ,or_false]at ha;rcases ha with rfl|rfl|rfl|rfl|rfl|rfl<;>rfl
section
variable {H:List aa}{k kp:AV->List aa->Prop}
theorem Iu{lv:Bool}:N7 lv H (.fn (.func 52) [] []) true:=λL k kp hk=>c9 (ah3 hk)
theorem ahN{x:ak}(hx:x.Ok)(hm:H[0]?=some .main)(hk:∀D,fF x 0 D->k (.aN [iv (if D.has then(D.aK.length:Int)else 0),iv 0]) H):bm true SA 21 H [x.av] k kp:=by
 refine bG (rs:=[.tmp 2,.tmp 3]) (nt:=19) Tryz.f21 λhH hA=> ?_;simp only[br,SW,ak.av];have hp:=hx.an;obtain⟨p,ie⟩:∃p:Nat,x.an=p:=⟨x.an.toNat,by omega⟩;have bM:x.l=[iv x.first,iv x.hours,iv x.an,dC x.seen,aT x.pieces,aT x.aC]:=rfl;have a_:∀(L:List aa),(H++L)[H.length]?=L[0]?:=λL=>ba H L 0;have dw:x.l.length=6:=rfl;have gh:TH 6 x.l=x.l:=rfl;refine am ?_;refine aj ?_;simp only[seval,a_,dw,gh];refine aL ((zq (x:=x) hx ie (fH hm) Iu (λh=>by cases h) λ_ js D L mp iy jq dW sV hg=> ?_));have n5:fF x 0 D:=⟨p,js,ie,iy,jq,dW⟩;have fg:=Kn.len dW mp;have jZ:=uN D mp;obtain⟨B,hB⟩:∃B,B=H++[aa.cells x.l 26]++L:=⟨_,rfl⟩;rw[<- hB]at hg⊢;(try simp only[seval,ak.av,dw,fg]);refine⟨tC x,jZ,?_⟩;have fy:∀(L':List aa)(n:Int),k (.aN [iv n,iv 0]) H->cC H.length (B++L') (.aN [iv n,iv 0]) k:=λL' n h=>by
  rw[hB,SC,SC];exact jm hH (Wk.refl _) (by simp[jx,eC]) h
 have od:∀(L':List aa),(B++L')[B.length+1]?=L'[1]?:=λL'=>ba B L' 1;have vX:∀(L':List aa),(B++L')[mp]?=some (.obj (.map (D.aK.zipIdx.map ek).toArray D.aK.length)):=λL'=>fH hg;have bY:(D.l mp).drop 1=.mp mp::((D.l mp).drop 2):=rfl;have aJ:=hk D n5;cases hh:D.has with
 |false=>
  have hE:eV D=11:=by rw[eV,hh];rfl
  rw[hh]at aJ;refine aj ?_;simp only[seval,hE,show ((11:Int)==11)=true from rfl];refine aF ?_;refine am ?_;refine bi ?_;exact fy _ 0 aJ
 |true=>
  have hE:eV D=0:=by rw[eV,hh];rfl
  rw[hh]at aJ;refine aj ?_;simp only[seval,hE,show ((0:Int)==11)=false from rfl];refine aF ?_;refine aO ?_;refine aj ?_;simp only[seval,od,bY,vX];have aW:(D.aK.zipIdx.map ek).toArray.size=D.aK.length:=by simp
  rw[ad3 _ _ _ _ _ F.N_ (vX _),aW];refine bi ?_;exact fy _ _ aJ
end
namespace Tk
def vM (some other:Bool):Int:=if some&&other then 3 else if some then 1 else 2
end Tk
open Go.Conc Go.Proofs Go.Gg.Tk
section
variable {lv:Bool}{H:List aa}{k kp:AV->List aa->Prop}
theorem ah8{D:Kn}{mp s q:Nat}(hD:bJ D)(hs:s<3)(hq:q<4)(hk:k (iv (vM ((D.aV.getD s 0).testBit q) (D.aV.getD s 0!=2^q))) H):bm lv SA 60 H [.agg (D.l mp),.cY 97 (.agg [iv s,iv q])] k kp:=by
 refine bG (rs:=[.tmp 4]) (nt:=65) Tryz.f60 λhH hA=> ?_;simp only[br,SW];have fg:=Kn.len hD mp;obtain⟨u,hu⟩:=cj (xs:=D.aV) (i:=s) (by rw[hD.aV];exact hs);have lG:D.aV.getD s 0=u:=by rw[SE,hu];rfl
 rw[lG]at hk;have lu:=hD.lK _ (Tc hu);have b3:(0<=(s:Int)/\(s:Int)<3)=True:=by simp;omega
 have a_:∀(L:List aa),(H++L)[H.length]?=L[0]?:=λL=>ba H L 0;have bY:∀(L:List aa),(H++L)[H.length+1]?=L[1]?:=λL=>ba H L 1;have Cp:=Kn.Dt hD (mp:=mp) hu;refine am ?_;refine am ?_;refine am ?_;refine aj ?_;simp only[seval,F.alw];refine aF ?_;refine aj ?_;simp only[seval,F.aan];refine aF ?_;refine am ?_;refine eM 18 ?_;simp only[seval,a_,bY,b3,Cp];refine ik (bv (u.testBit q)) (c9 (xh lu ⟨rfl,rfl⟩)) ?_;refine ik (wv (2^q)) (c9 (ue (m:=0) (by decide) (show q<16 by omega) ⟨by rw[Nat.zero_or],rfl⟩)) ?_;have aI:((u:Int)!=((2^q:Nat):Int))=(u !=2^q):=by
  rw[Vm,bne_iff_ne,bne_iff_ne];exact not_congr Int.ofNat_inj
 rw[show wv u=AV.val (.int .u16 (u:Int))from rfl,show wv (2^q)=AV.val (.int .u16 ((2^q:Nat):Int))from rfl,Oi,aI];have fin:∀(L:List aa)(n:Int),vM (u.testBit q) (u !=2^q)=n->cC H.length (H++L) (iv n) k:=λL n h=>by rw[h]at hk;exact lh hH hk
 generalize u.testBit q=s1 at fin⊢;generalize(u !=2^q)=s2 at fin⊢;cases s1<;>cases s2
 all_goals
  refine am ?_;refine cP ?_;refine cP ?_;refine cP ?_;refine am ?_;refine aF ?_
 ·refine aO ?_;refine am ?_;refine aF ?_;refine cp ?_;refine am ?_;refine am ?_;refine cp ?_;refine am ?_;refine bi ?_;exact fin _ 2 rfl
 ·refine aO ?_;refine am ?_;refine aF ?_;refine cp ?_;refine am ?_;refine am ?_;refine cp ?_;refine am ?_;refine bi ?_;exact fin _ 2 rfl
 ·refine aO ?_;refine am ?_;refine aF ?_;refine aO ?_;refine cp ?_;refine am ?_;refine cp ?_;refine am ?_;refine bi ?_;exact fin _ 1 rfl
 ·refine cp ?_;refine am ?_;refine am ?_;refine am ?_;refine cp ?_;refine am ?_;refine bi ?_;exact fin _ 3 rfl
theorem aoa{x:ak}{q:Nat}(hq:q<x.pieces.length):yq x [(q:Int)]=true:=by
 unfold yq;simp;omega
theorem ah7{x:ak}{s q ir ip is:Nat}(hx:x.Ok)(hs:s<x.aC.length)(hq:q<x.pieces.length)(hr:H[ir]?=some (.cells x.l 26))(h1:H[ip]?=some (.cells [iv q] 3))(h2:H[is]?=some (.cells [iv s] 3))(hk:k (bv true) H):bm lv SA 57 H [.op ir 0,.op ip 0,.op is 0] k kp:=by
 refine bG (rs:=[.tmp 3]) (nt:=18) Tryz.f57 λhH hA=> ?_;simp only[br,SW];have bM:x.l=[iv x.first,iv x.hours,iv x.an,dC x.seen,aT x.pieces,aT x.aC]:=rfl;have dw:x.l.length=6:=rfl;have gh:TH 6 x.l=x.l:=rfl;have aR:=hx.di;have a_:∀(L:List aa),(H++L)[H.length]?=L[0]?:=λL=>ba H L 0;have bY:∀(L:List aa),(H++L)[H.length+1]?=L[1]?:=λL=>ba H L 1;have ay:=aoa hq;have hw:SD.wrap ((x.aC.length:Int)-1)=(x.aC.length:Int)-1:=bB _ (by omega);have cR:(decide ((s:Int)<0)||decide ((s:Int)>(x.aC.length:Int)-1))=false:=by simp;omega
 refine am ?_;refine aj ?_;simp only[seval,z1,hr,h1,dw,gh];(try refine⟨by decide,?_⟩);refine aL ((Jk (x:=x) (ns:=[(q:Int)]) (e:=.exact) ?_));(try simp only[seval]);refine aL ((Jo (x:=x) (ns:=[(q:Int)]) (e:=.exact) hx (by simp) (by rw[bY];rfl) (by rw[a_];rfl) ?_));(try simp only[seval,ay,fH hr,fH h2,bM,aT,hw]);refine aL ((sD ?_));(try simp only[seval,cR]);refine bi ?_;exact lh hH hk
theorem ahS{x:ak}{s q:Nat}(hx:x.Ok)(hs:s<x.aC.length)(hq:q<x.pieces.length)(hm:H[0]?=some .main)(hk:∀D,fF x 2 D->k (.aN [iv (if D.has then vM ((D.aV.getD s 0).testBit q) (D.aV.getD s 0!=2^q)else 0),iv (eV D)]) H):bm true SA 28 H [x.av,iv s,iv q] k kp:=by
 refine bG (rs:=[.tmp 6,.tmp 7]) (nt:=27) Tryz.f28 λhH hA=> ?_;simp only[br,SW,ak.av];have hp:=hx.an;obtain⟨p,ie⟩:∃p:Nat,x.an=p:=⟨x.an.toNat,by omega⟩;have a_:∀(L:List aa),(H++L)[H.length]?=L[0]?:=λL=>ba H L 0;have bY:∀(L:List aa),(H++L)[H.length+1]?=L[1]?:=λL=>ba H L 1;have jV:∀(L:List aa),(H++L)[H.length+2]?=L[2]?:=λL=>ba H L 2;have dw:x.l.length=6:=rfl;have gh:TH 6 x.l=x.l:=rfl;refine am ?_;refine aj ?_;simp only[seval,a_,dw,gh,Ua,UC,Uj,TN];refine aL ((zq (x:=x) (b:=true) hx ie (fH hm) (λL k kp hk=>c9 (ah7 hx hs hq (by rw[SC,a_];rfl) (by rw[SC,jV];rfl) (by rw[SC,bY];rfl) hk)) (λh=>by cases h) λ_ js D L mp iy jq dW sV hg=> ?_));have n5:fF x 2 D:=⟨p,js,ie,iy,jq,dW⟩;have fg:=Kn.len dW mp;have jZ:=uN D mp;obtain⟨Y,hY⟩:∃Y:List aa,Y=[aa.cells x.l 26,.cells [iv s] 3,.cells [iv q] 3]++L:=⟨_,rfl⟩;obtain⟨B,hB⟩:∃B,B=H++Y:=⟨_,rfl⟩;have sH:H++[aa.cells x.l 26,.cells [iv s] 3,.cells [iv q] 3]++L=B:=by rw[hB,hY,SC]
 have od:∀(L':List aa),(B++L')[B.length+1]?=L'[1]?:=λL'=>ba B L' 1;have hbs:∀(L':List aa),(B++L')[H.length+1]?=some (.cells [iv s] 3):=λL'=>by rw[hB,hY,SC,bY];rfl
 have Cj:∀(L':List aa),(B++L')[H.length+2]?=some (.cells [iv q] 3):=λL'=>by rw[hB,hY,SC,jV];rfl
 have aJ:=hk D n5;have fy:∀(L':List aa)(n m:Int),k (.aN [iv n,iv m]) H->cC H.length (B++L') (.aN [iv n,iv m]) k:=λL' n m h=>by
  rw[hB,SC];exact jm hH (Wk.refl _) (by simp[jx,eC]) h
 rw[sH];clear sH hg hB;(try simp only[seval,ak.av,dw,fg]);refine⟨tC x,jZ,?_⟩;cases hh:D.has with
 |false=>
  have hE:eV D=11:=by rw[eV,hh];rfl
  rw[hE,hh]at aJ;refine aj ?_;simp only[seval,hE,show ((11:Int)!=0)=true from rfl];refine aF ?_;refine am ?_;refine bi ?_;exact fy _ 0 11 aJ
 |true=>
  have hE:eV D=0:=by rw[eV,hh];rfl
  rw[hE,hh]at aJ;refine aj ?_;simp only[seval,hE,show ((0:Int)!=0)=false from rfl];refine aF ?_;refine aO ?_;refine aj ?_;simp only[seval,F.aan,od,hbs,Cj,fg];rw[SP (i:=28) (by rw[fg];exact SQ _)];refine aL ((ah8 (s:=s) (q:=q) dW (by have:=hx.di;omega) (by have:=hx.dY;omega) ?_));(try simp only[seval]);refine bi ?_;exact fy _ _ 0 aJ
end
theorem z2:gH (SF .i64 0) 2=[iv 0,iv 0]:=rfl
section
variable {H:List aa}{k kp:AV->List aa->Prop}
end
namespace Tk
structure gW where
 lo:Int
 hi:Int
 is:Bool
def gW.add (b:gW)(v:Int):gW:=if b.is then⟨min b.lo v,max b.hi v,true⟩else⟨v,v,true⟩
end Tk
def Tk.gW.l (b:gW):List AV:=[iv b.lo,iv b.hi,bv b.is]
section
variable {lv:Bool}{H:List aa}{k kp:AV->List aa->Prop}
theorem aid{b:gW}{v:Int}{i:Nat}(hi:H[i]?=some (.cells b.l 112))(hk:k (.aN []) (H.set i (.cells (b.add v).l 112))):bm lv SA 74 H [.op i 0,iv v] k kp:=by
 refine bG (rs:=[]) (nt:=38) Tryz.f74 λhH hA=> ?_;simp only[br,SW];have bF:=eI hi;obtain⟨hp,eR⟩:∃hp:List AV->List aa,∀l,hp l=H.set i (.cells l 112):=⟨_,λ_=>rfl⟩;have h0:H=hp b.l:=by rw[eR];exact(qy hi).symm
 have hg:∀l,(hp l)[i]?=some (.cells l 112):=λl=>by rw[eR,UM,if_pos rfl,if_pos bF]
 have hs:∀l l',(hp l).set i (.cells l' 112)=hp l':=λl l'=>by rw[eR,eR,W6]
 have fin:∀(N:Nat)(l:List AV),l=(b.add v).l->cC N (hp l) (.aN []) k:=λN l e=>by
  rw[e,eR];exact bX hk
 rw[h0];clear hH hA eR h0 hi hk;refine aj ?_;simp only[seval,hg,gW.l];refine aF ?_;refine⟨λh=> ?_,λh=> ?_⟩
 ·have hb:b.is=false:=by simpa using h
  refine aj ?_;simp(maxSteps:=4000000) only[seval,hg,hs];refine nU [16,19] (SV 20) (λD=>bif isDone 19 D then hp [iv (min v v),iv (max v v),bv true]else bif isDone 16 D then hp [iv (min v v),iv v,bv true]else hp [iv v,iv v,bv true]) ?_;simp only[seval,hg,hs];have m1:(if v<v then v else v)=v:=by split<;>rfl
  have m2:min v v=v:=by omega
  have m3:max v v=v:=by omega
  rw[m1,m2,m3];exact⟨rfl,rfl,fin _ _ (by rw[gW.add,if_neg (by rw[hb];decide)];rfl)⟩
 ·have hb:b.is=true:=by simpa using h
  refine aO ?_;refine nU [16,19] (SV 20) (λD=>bif isDone 19 D then hp [iv (min b.lo v),iv (max b.hi v),bv b.is]else bif isDone 16 D then hp [iv (min b.lo v),iv b.hi,bv b.is]else hp [iv b.lo,iv b.hi,bv b.is]) ?_;simp only[seval,hg,hs];have m1:(if v<b.lo then v else b.lo)=min b.lo v:=by split<;>omega
  have m2:(if b.hi<v then v else b.hi)=max b.hi v:=by split<;>omega
  rw[m1,m2];exact⟨rfl,rfl,fin _ _ (by rw[gW.add,if_pos hb,hb];rfl)⟩
end
open Go.Conc Go.Proofs Go.Gg.Tk
namespace Tk
def vw (hour:Nat)(hs:List (List Int)):gW:=hs.foldl (λb h=>b.add (h.getD hour 0)) ⟨0,0,false⟩
end Tk
section
variable {lv:Bool}{H:List aa}{k kp:AV->List aa->Prop}
theorem aic{x:ak}{hour:Nat}{ih ir:Nat}(hh:(hour:Int)<=x.hours)(h1:H[ih]?=some (.cells [iv hour] 3))(hr:H[ir]?=some (.cells x.l 26))(hk:k (bv true) H):bm lv SA 73 H [.op ih 0,.op ir 0] k kp:=by
 refine bG (rs:=[.tmp 2]) (nt:=8) Tryz.f73 λhH hA=> ?_;simp only[br,SW];have bM:x.l=[iv x.first,iv x.hours,iv x.an,dC x.seen,aT x.pieces,aT x.aC]:=rfl;have cR:(decide ((hour:Int)<0)||decide ((hour:Int)>x.hours))=false:=by simp;omega
 refine am ?_;refine aj ?_;simp only[seval,h1,hr,bM];refine aL ((sD ?_));(try simp only[seval,cR]);refine bi ?_;exact bX hk
theorem ahY{x:ak}{hour:Nat}(hx:x.Ok)(hh:(hour:Int)<=x.hours)(hm:H[0]?=some .main)(hk:∀D,fF x 0 D->(D.has=false->k (.aN [.agg [iv 0,iv 0],iv 11]) H)/\(D.has=true->∀hs:List (List Int),hs.Perm D.aK->k (.aN [.agg [iv (vw hour hs).lo,iv (vw hour hs).hi],iv 0]) H)):bm true SA 36 H [x.av,iv hour] k kp:=by
 refine bG (rs:=[.cell 4 46,.tmp 5]) (nt:=41) Tryz.f36 λhH hA=> ?_;simp only[br,SW,ak.av];have hp:=hx.an;have FJ:=hx.hours;obtain⟨p,ie⟩:∃p:Nat,x.an=p:=⟨x.an.toNat,by omega⟩;have a_:∀(L:List aa),(H++L)[H.length]?=L[0]?:=λL=>ba H L 0;have bY:∀(L:List aa),(H++L)[H.length+1]?=L[1]?:=λL=>ba H L 1;have jV:∀(L:List aa),(H++L)[H.length+2]?=L[2]?:=λL=>ba H L 2;have fN:∀(L:List aa)(y:aa),(H++L).set (H.length+2) y=H++L.set 2 y:=λL y=>dJ H L 2 y;have dw:x.l.length=6:=rfl;have gh:TH 6 x.l=x.l:=rfl;refine am ?_;refine aj ?_;simp only[seval,a_,dw,gh,Ua,UC,Uj,TN];refine aL ((zq (x:=x) (b:=true) hx ie (fH hm) (λL k kp hk=>c9 (aic hh (by rw[SC,bY];rfl) (by rw[SC,a_];rfl) hk)) (λh=>by cases h) λ_ js D L mp iy jq dW sV hg=> ?_));have n5:fF x 0 D:=⟨p,js,ie,iy,jq,dW⟩;have fg:=Kn.len dW mp;have jZ:=uN D mp;obtain⟨iz,cD⟩:=hk D n5;obtain⟨Bf,nZ⟩:∃Bf:List AV->List aa,∀l,Bf l=H++([aa.cells x.l 26,.cells [iv hour] 3,.cells l 46]++L):=⟨_,λ_=>rfl⟩;have sH:H++[aa.cells x.l 26,.cells [iv hour] 3,.cells [iv 0,iv 0] 46]++L=Bf [iv 0,iv 0]:=by rw[nZ,SC]
 obtain⟨N,hN⟩:∃N,N=H.length+3+L.length:=⟨_,rfl⟩;have fI:∀l,(Bf l).length=N:=λl=>by rw[nZ,hN];simp;omega
 have b1:∀l (L':List aa),(Bf l++L')[H.length+1]?=some (.cells [iv hour] 3):=λl L'=>by rw[nZ,SC,bY];rfl
 have b2:∀l (L':List aa),(Bf l++L')[H.length+2]?=some (.cells l 46):=λl L'=>by rw[nZ,SC,jV];rfl
 have tX:∀l l' (L':List aa),(Bf l++L').set (H.length+2) (.cells l' 46)=Bf l'++L':=λl l' L'=>by rw[nZ,SC,fN,nZ];simp
 have bn:∀l (L':List aa)(j:Nat),(Bf l++L')[N+j]?=L'[j]?:=λl L' j=>by rw[<- fI l,ba]
 have vz:∀l (L':List aa)(j:Nat)(y:aa),(Bf l++L').set (N+j) y=Bf l++L'.set j y:=λl L' j y=>by rw[<- fI l,dJ]
 rw[sH]at hg⊢;have fy:∀(l:List AV)(L':List aa)(a b:Int)(m:Int),k (.aN [.agg [iv a,iv b],iv m]) H->cC H.length (Bf l++L') (.aN [.agg [iv a,iv b],iv m]) k:=λl L' a b m h=>by
  rw[nZ,SC];exact jm hH (Wk.refl _) (by simp[jx,eC,tn]) h
 (try simp only[seval,ak.av,dw,fg,fI]);refine⟨tC x,jZ,?_⟩;cases iK:D.has with
 |false=>
  have hE:eV D=11:=by rw[eV,iK];rfl
  refine aj ?_;simp only[seval,hE,show ((11:Int)!=0)=true from rfl];refine aF ?_;refine aj ?_;simp only[seval,b2,tX];refine mU ?_;simp only[seval,b2];exact fy _ _ 0 0 11 (iz iK)
 |true=>
  have hE:eV D=0:=by rw[eV,iK];rfl
  refine aj ?_;simp only[seval,hE,show ((0:Int)!=0)=false from rfl];refine aF ?_;refine aO ?_;refine aj ?_;simp only[seval,fI];refine aj ?_;simp only[seval,Ua,UC,Uj,TN];have oU:(D.l mp).drop 1=.mp mp::((D.l mp).drop 2):=rfl;obtain⟨ts,cM⟩:∃ts,ts=D.aK.zipIdx:=⟨_,rfl⟩;obtain⟨ck,FA⟩:∃ck,ck=D.aK.length:=⟨_,rfl⟩;have vX:∀l (L':List aa),(Bf l++L')[mp]?=some (.obj (.map (ts.map ek).toArray ck)):=λl L'=>by
   have h0:(Bf [iv 0,iv 0])[mp]?=some (setH D.aK):=hg;have aI:mp≠H.length+2:=λe=>by
    have:=b2 [iv 0,iv 0] [];rw[SN,<- e,h0]at this;cases this
   have h1:(Bf l)[mp]?=some (setH D.aK):=by
    have:=tX [iv 0,iv 0] l [];rw[SN,SN]at this;rw[<- this,T8 (λe=>aI e.symm)];exact h0
   rw[cM,FA];exact fH h1
  have pX:∀y∈ts,y.2<ck:=λy hy=>by rw[cM]at hy;have:=List.snd_lt_add_of_mem_zipIdx hy;omega
  have CA:(ts.map (·.2)).Nodup:=by rw[cM,show (λy:List Int×Nat=>y.2)=Prod.snd from rfl,List.zipIdx_map_snd];exact List.nodup_range'
  have h4:∀y∈ts,y.1.length=4:=λy hy=>by rw[cM]at hy;exact dW.h4 _ (D3 hy)
  have fx:=O4 ts ck pX;have Lz:ts.map (·.1)=D.aK:=by rw[cM,show (λy:List Int×Nat=>y.1)=Prod.fst from rfl,List.zipIdx_map_fst]
  clear cM;refine aj ?_;simp only[seval,fI,bn,oU,vX];obtain⟨jK,eR⟩:∃jK:gW->Array Nat->List aa,∀b sn,jK b sn=Bf [iv 0,iv 0]++[.cells x.l 76,.cells (D.l mp) 88,.cells b.l 112,.iter mp ck sn ck]:=⟨_,λ_ _=>rfl⟩;have p1:∀b sn (L':List aa),(jK b sn++L')[H.length+1]?=some (.cells [iv hour] 3):=λb sn L'=>by rw[eR,SC];exact b1 _ _
  have p2:∀b sn (L':List aa),(jK b sn++L')[N+2]?=some (.cells b.l 112):=λb sn L'=>by rw[eR,SC,bn];rfl
  have p3:∀b sn (L':List aa),(jK b sn++L')[N+3]?=some (.iter mp ck sn ck):=λb sn L'=>by rw[eR,SC,bn];rfl
  have p3':∀b sn,(jK b sn)[N+3]?=some (.iter mp ck sn ck):=λb sn=>by have:=p3 b sn [];rwa [SN]at this
  have p4:∀b sn (L':List aa),(jK b sn++L')[N+4]?=L'[0]?:=λb sn L'=>by rw[eR,SC,bn];rfl
  have pm:∀b sn (L':List aa),(jK b sn++L')[mp]?=some (.obj (.map (ts.map ek).toArray ck)):=λb sn L'=>by rw[eR,SC];exact vX _ _
  have MS:∀b sn,(jK b sn)[mp]?=some (.obj (.map (ts.map ek).toArray ck)):=λb sn=>by have:=pm b sn [];rwa [SN]at this
  have s2:∀b sn b' (L':List aa),(jK b sn++L').set (N+2) (.cells (gW.l b') 112)=jK b' sn++L':=λb sn b' L'=>by rw[eR,SC,vz,eR,SC];rfl
  have s3:∀b sn Ns,(jK b sn).set (N+3) (.iter mp ck Ns ck)=jK b Ns:=λb sn Ns=>by rw[eR,vz,eR];rfl
  have pl:∀b sn,(jK b sn).length=N+4:=λb sn=>by rw[eR];simp[fI]
  have aR:Bf [AV.val (SF SD 0),AV.val (SF SD 0)]++[.cells x.l 76,.cells (D.l mp) 88,.cells [AV.val (SF SD 0),AV.val (SF SD 0),AV.val (W_ false)] 112,.iter mp ck #[] ck]=jK ⟨0,0,false⟩ #[]:=by rw[eR];rfl
  rw[aR];have oX:hour<4:=by omega
  have b4:(0<=(hour:Int)/\(hour:Int)<4)=True:=by simp;omega
  have s46:∀b sn l,(jK b sn).set (H.length+2) (.cells l 46)=Bf l++[.cells x.l 76,.cells (D.l mp) 88,.cells b.l 112,.iter mp ck sn ck]:=λb sn l=>by rw[eR,tX]
  have p46:∀b sn,(jK b sn)[H.length+2]?=some (.cells [iv 0,iv 0] 46):=λb sn=>by rw[eR,b2]
  have p2':∀b sn,(jK b sn)[N+2]?=some (.cells (gW.l b) 112):=λb sn=>by have:=p2 b sn [];rwa [SN]at this
  refine cP ?_;refine y8 (measure λvs:List (List Int×Nat)=>ts.length-vs.length).wf (λvs=>[]) (λvs=>jK (vw hour (vs.map (·.1))) (vs.map (·.2)).toArray) (λvs=>(vs.map (·.2)).Nodup/\∀y∈vs,y∈ts) [] (λ_ _=>rfl) (by simp) rfl (λ_ _=>by simp[pl]) ⟨by simp,by simp⟩ (λcq dG vs ay R hR=> ?_);refine aj ?_;simp only[seval,p3',MS,s3];refine⟨fx.elim .inl (λh=> .inr (.inl h)),λe he hn=> ?_,λhs=> ?_⟩
  ·obtain⟨y,hy,rfl⟩:∃y∈ts,ek y=e:=(by simpa using he);refine aF ?_;refine aO ?_;refine cP ?_;have sG:=h4 y hy;have Kd:(ek y).born=y.2:=rfl;have hlen:(y.1.map iv).length=4:=(by simp[sG]);have Km:TR 4 [AV.val (SF SD 0),AV.val (SF SD 0),AV.val (SF SD 0),AV.val (SF SD 0)]=[]:=rfl;obtain⟨w,hw⟩:=cj (xs:=y.1) (i:=hour) (by omega);have LB:y.1.getD hour 0=w:=(by rw[SE,hw];rfl);have LH:y.2∉vs.map (·.2):=(by simpa[ek]using hn);have F2:((vs.map (·.2)).toArray.push y.2)=((vs++[y]).map (·.2)).toArray:=(by simp);have ajA:(vw hour (vs.map (·.1))).add w=vw hour ((vs++[y]).map (·.1)):=by
    unfold vw;rw[TE,ZL];show _=gW.add _ (y.1.getD hour 0);rw[LB]
   have sX:((vs++[y]).map (·.2)).Nodup/\∀z∈vs++[y],z∈ts:=by
    refine⟨?_,λz hz=> ?_⟩
    ·rw[TE,U7];refine⟨ay.1,by simp,λa ha b hb=> ?_⟩;simp at hb;subst hb;intro e;subst e;exact LH ha
    ·rcases SS.1 hz with h|h
     ·exact ay.2 z h
     ·rw[S8.1 h];exact hy
   have atj:vs.length<ts.length:=by
    have h1:(vs++[y]).Nodup:=Dh _ sX.1;have:=h1.length_le_of_subset sX.2;simp at this;omega
   have rA:ts.length-(vs++[y]).length<ts.length-vs.length:=(by simp;omega);have FV:∀b sn,bH (jK b sn):=λb sn z hz=>by
    have QL:bH (jK ⟨0,0,false⟩ #[]):=cq;rw[pl];rw[eR]at hz;have cR:∀z,z∈jK ⟨0,0,false⟩ #[]->eK (N+4) z:=λz hz=>by
     have:=QL z hz;rwa [pl]at this
    rcases SS.1 hz with h|h
    ·exact cR z (by rw[eR];exact Tf _ h)
    ·simp only[SK,SZ,or_false]at h;rcases h with rfl|rfl|rfl|rfl
     ·exact cR _ (by rw[eR];simp)
     ·exact cR _ (by rw[eR];simp)
     ·intro a ha;simp only[gW.l,SK,SZ,or_false]at ha;rcases ha with rfl|rfl|rfl<;>exact .val _
     ·show mp<N+4;have:=eI (MS ⟨0,0,false⟩ #[]);rwa [pl]at this
   refine aj ?_;simp only[seval,p3',MS,s3,pl,p4,Kd,Array.back?_push,Qa CA hy,abn,sG,hlen,Km];refine aj ?_;simp only[seval,p1,p4,b4,kG hw];refine aL ((aid (b:=vw hour (vs.map (·.1))) (v:=w) (i:=N+2) (p2 _ _ _) ?_));rw[s2,ajA,F2];(try simp only[seval]);refine hR _ ⟨vs++[y],rA,sX,?_⟩;exact abW (po rfl rfl) (by simp only[seval]<;>simp[bC,Wk.refl]) (FV _ _) (by simp[eC])
  ·have lZ:vs.Perm ts:=ab6 ay.1 CA ay.2 λy hy=>by
    have:=hs (ek y) (by simp;exact⟨y.1,y.2,hy,rfl⟩) (pX y hy);simpa[ek]using this
   have Lb:(vs.map (·.1)).Perm D.aK:=by
    have:=lZ.map (·.1);rw[Lz]at this;exact this
   have aJ:=cD iK _ Lb;generalize zK:vw hour (vs.map (·.1))=bv' at aJ;refine aF ?_;refine cp ?_;refine aj ?_;simp only[seval,p2',p46,s46,gW.l,zK];refine mU ?_;simp only[seval,b2];exact fy _ _ _ _ 0 aJ
end
open Go.Conc Go.Proofs Go.Gg.Tk
namespace Tk
end Tk
section
variable {lv:Bool}{H:List aa}{k kp:AV->List aa->Prop}
end
open Go.Conc Go.Proofs Go.Gg.Tk
namespace Tk
def An (out n:Int):Int:=if 0<=n/\(out<0\/n<out)then n else out
def yf (l:List Int):Int:=l.foldl An (-1)
def uf (aV:List Nat)(i:Nat):List Int:=(SV i).flatMap λs=>if 1<(fA (aV.getD s 0) 0 16).length then[-1]else fA (aV.getD s 0) 0 16
theorem Qz(aV:List Nat)(i:Nat):uf aV (i+1)=uf aV i++(if 1<(fA (aV.getD i 0) 0 16).length then[-1]else fA (aV.getD i 0) 0 16):=by
 unfold uf;rw[Vk,Vx];simp
theorem Qy(aV:List Nat):∀i,(uf aV i).length<=i
 |0=>by simp[uf]
 |i+1=>by
  have:=Qy aV i;rw[Qz,S4];split
  ·simp;omega
  ·omega
end Tk
theorem HM{a a' b b':AV}(h1:Wk a a')(h2:Wk b b'):Wk (.aN [a,b]) (.aN [a',b']):=λE v h=>by
 cases h with
 |aN hs h=>
  refine .aN hs λi x e=> ?_
  match i with
  |0=>cases e;exact h1 _ _ (h 0 a rfl)
  |1=>cases e;exact h2 _ _ (h 1 b rfl)
open Go.Conc Go.Proofs Go.Gg.Tk
section
variable {lv:Bool}{H:List aa}{k kp:AV->List aa->Prop}
theorem ahQ{x:ak}(hx:x.Ok)(hm:H[0]?=some .main)(hk:∀D,fF x 2 D->(D.has=false->k (.aN [bu [],iv 11]) H)/\(D.has=true->k (.aN [bu (uf D.aV x.aC.length),iv 0]) H)):bm true SA 26 H [x.av] k kp:=by
 refine bG (rs:=[.tmp 2,.tmp 3]) (nt:=39) Tryz.f26 λhH hA=> ?_;simp only[br,SW,ak.av];have hp:=hx.an;have aR:=hx.di;obtain⟨p,ie⟩:∃p:Nat,x.an=p:=⟨x.an.toNat,by omega⟩;have bM:x.l=[iv x.first,iv x.hours,iv x.an,dC x.seen,aT x.pieces,aT x.aC]:=rfl;have a_:∀(L:List aa),(H++L)[H.length]?=L[0]?:=λL=>ba H L 0;have dw:x.l.length=6:=rfl;have gh:TH 6 x.l=x.l:=rfl;refine am ?_;refine aj ?_;simp only[seval,a_,dw,gh];refine aL ((zq (x:=x) hx ie (fH hm) Iu (λh=>by cases h) λ_ js D L mp iy jq dW sV hg=> ?_));have n5:fF x 2 D:=⟨p,js,ie,iy,jq,dW⟩;have fg:=Kn.len dW mp;have jZ:=uN D mp;obtain⟨iz,cD⟩:=hk D n5;obtain⟨Y,hY⟩:∃Y:List aa,Y=[aa.cells x.l 26]++L:=⟨_,rfl⟩;obtain⟨B,hB⟩:∃B,B=H++Y:=⟨_,rfl⟩;have sH:H++[aa.cells x.l 26]++L=B:=by rw[hB,hY,SC]
 have zJ:∀(L':List aa),(B++L')[H.length]?=some (.cells x.l 26):=λL'=>by rw[hB,hY,SC,a_];rfl
 have bn:∀(L':List aa)(j:Nat),(B++L')[B.length+j]?=L'[j]?:=λL' j=>ba B L' j;have vz:∀(L':List aa)(j:Nat)(y:aa),(B++L').set (B.length+j) y=B++L'.set j y:=λL' j y=>dJ B L' j y;have fy:∀(L':List aa)(ns:List Int)(e:End)(m:Int),k (.aN [bu ns,iv m]) H->cC H.length (B++L') (.aN [.sl ns.length (ns.map iv) e,iv m]) k:=λL' ns e m h=>by
  rw[hB,SC];exact jm hH (HM (gV _ _ _) (Wk.refl _)) (by simp[jx,eC,bu,uT]) h
 rw[sH];clear sH hg;(try simp only[seval,ak.av,dw,fg]);refine⟨tC x,jZ,?_⟩;cases iK:D.has with
 |false=>
  have hE:eV D=11:=by rw[eV,iK];rfl
  refine aj ?_;simp only[seval,hE,show ((11:Int)!=0)=true from rfl];refine aF ?_;refine am ?_;refine bi ?_;exact fy _ [] .exact 11 (iz iK)
 |true=>
  have hE:eV D=0:=by rw[eV,iK];rfl
  refine aj ?_;simp only[seval,hE,show ((0:Int)!=0)=false from rfl];refine aF ?_;refine aO ?_;refine am ?_
  (repeat apply iF);refine vt (t:=7) (sz:=1) (el:=3) (by simp only[seval]<;>rfl) ?_
  have un:TR 5 x.l=[.sl x.aC.length (x.aC.flatMap aD.l) .shut]:=rfl;refine aj ?_;simp only[seval,zJ,un];have BH:∀(L':List aa),(B++L')[B.length+1]?=L'[1]?:=λL'=>bn L' 1;have y_:∀(L':List aa),(B++L')[B.length+2]?=L'[2]?:=λL'=>bn L' 2;have tX:∀(L':List aa)(y:aa),(B++L').set (B.length+2) y=B++L'.set 2 y:=λL' y=>vz L' 2 y;obtain⟨gl,kj⟩:∃gl:Nat->List Int,∀i,gl i=uf D.aV i:=⟨_,λ_=>rfl⟩;have Cr:gl 0=[]:=by rw[kj];rfl
  have KD:∀i,(gl i).length<=i:=λi=>by rw[kj];exact Qy _ _
  refine cP ?_;refine iu x.aC.length (λi:Nat=>[(7,.sl (gl i).length ((gl i).map iv) (.opn (B.length+2))),(22,iv i)]) (λi=>B++[.cells x.l 76,.cells (D.l mp) 88,.tail (gl i).length 1 3]) (λi=>True) (λ_ _=>rfl) (by rw[Cr];simp only[seval];simp[bC,Wk.refl]) (by rw[Cr];rfl) (λ_ _ _=>by simp) trivial (λcq dG i cR _ R hR=> ?_);refine am ?_;refine aF ?_;refine⟨λh=> ?_,λh=> ?_⟩
  ·have bF:i<x.aC.length:=(by omega);obtain⟨u,hu⟩:=cj (xs:=D.aV) (i:=i) (by rw[dW.aV];omega);have lu:=dW.lK _ (Tc hu);have b3:(0<=(i:Int)/\(i:Int)<3)=True:=(by simp;omega);have fJ:SD.wrap ((i:Int)+1)=((i+1:Nat):Int):=(by rw[bB _ (by omega)];rfl);have Cp:=Kn.Dt dW (mp:=mp) hu;have c_:gl (i+1)=gl i++(if 1<(fA u 0 16).length then[-1]else fA u 0 16):=by
    rw[kj,kj,Qz,SE,hu];rfl
   have RN:=KD i;have hO:=Mn u 0 16;refine aO ?_;refine am ?_;refine aj ?_;simp only[seval,BH,b3,Cp];refine aL ((Jj lu (by decide) ?_));(try simp only[seval,bu]);refine am ?_;refine aF ?_;refine⟨λhb=> ?_,λhb=> ?_⟩
   ·refine aj ?_;simp only[seval,z1];(try refine⟨by decide,?_⟩);refine aj ?_;simp only[seval,y_,tX];refine⟨by omega,?_⟩;refine aj ?_;simp only[seval,fJ];have od:1<(fA u 0 16).length:=(by have h2:(1:Int)<((fA u 0 16).length:Int):=(by simpa using hb);omega);rw[if_pos od]at c_;refine hR _ ⟨bF,trivial,?_⟩;rw[c_,TE,S4];exact dF
   ·refine aO ?_;refine aj ?_;simp only[seval,y_,tX];refine⟨by omega,?_⟩;refine aj ?_;simp only[seval,fJ];have od:¬1<(fA u 0 16).length:=(by have h2:((fA u 0 16).length:Int)<=1:=(by simpa using hb);omega);rw[if_neg od]at c_;refine hR _ ⟨bF,trivial,?_⟩;rw[c_,TE,S4];exact dF
  ·have du:i=x.aC.length:=(by omega);subst du;refine cp ?_;refine am ?_;refine bi ?_;have aJ:=cD iK;rw[<- kj]at aJ;exact fy _ _ _ 0 aJ
theorem ah9{ns:List Int}{e:End}(iA:ns.length<=16)(hk:k (iv (yf ns)) H):bm lv SA 69 H [.sl ns.length (ns.map iv) e] k kp:=by
 refine bG (rs:=[.tmp 2]) (nt:=26) Tryz.f69 λhH hA=> ?_;simp only[br,SW];refine am ?_;refine am ?_;refine am ?_;refine cP ?_;refine iu ns.length (λi:Nat=>[(3,iv (yf (ns.take i))),(8,iv i)]) (λ_=>_) (λi=>True) (λ_ _=>rfl) (by simp only[seval];simp[bC,Wk.refl];exact Wk.refl _) rfl (λ_ _ _=>rfl) trivial (λcq dG i cR _ R hR=> ?_);refine am ?_;refine aF ?_;refine⟨λh=> ?_,λh=> ?_⟩
 ·have bF:i<ns.length:=by omega
  obtain⟨n,hn⟩:=cj bF;have fJ:SD.wrap ((i:Int)+1)=((i+1:Nat):Int):=by rw[bB _ (by omega)];rfl
  have c_:yf (ns.take (i+1))=An (yf (ns.take i)) n:=by
   unfold yf;rw[VF,hn,ZL];rfl
  generalize yf (ns.take i)=o at c_ hR⊢;refine aO ?_;refine aj ?_;simp only[seval,e_ hn,jE bF];by_cases c1:0<=n
  ·have d1:decide (n>=0)=true:=decide_eq_true c1;by_cases c2:o<0
   ·have d2:decide (o<0)=true:=decide_eq_true c2;refine aj ?_;simp only[seval,d1,d2];refine aF ?_;refine am ?_;refine aj ?_;simp only[seval,fJ];rw[An,if_pos ⟨c1,.inl c2⟩]at c_;refine hR _ ⟨bF,trivial,?_⟩;rw[c_];exact dF
   ·have d2:decide (o<0)=false:=decide_eq_false c2;by_cases c3:n<o
    ·have d3:decide (n<o)=true:=decide_eq_true c3;refine aj ?_;simp only[seval,d1,d2,d3];refine aF ?_;refine am ?_;refine aj ?_;simp only[seval,fJ];rw[An,if_pos ⟨c1,.inr c3⟩]at c_;refine hR _ ⟨bF,trivial,?_⟩;rw[c_];exact dF
    ·have d3:decide (n<o)=false:=decide_eq_false c3;refine aj ?_;simp only[seval,d1,d2,d3];refine aF ?_;refine aO ?_;refine aj ?_;simp only[seval,fJ];rw[An,if_neg (λhc=>hc.2.elim c2 c3)]at c_;refine hR _ ⟨bF,trivial,?_⟩;rw[c_];exact dF
  ·have d1:decide (n>=0)=false:=decide_eq_false c1;(repeat apply iF);refine afl (by kernel_rfl) ?_;simp only[seval,d1];refine aF ?_;refine aO ?_;refine aj ?_;simp only[seval,fJ];rw[An,if_neg (λhc=>c1 hc.1)]at c_;refine hR _ ⟨bF,trivial,?_⟩;rw[c_];exact dF
 ·have:i=ns.length:=by omega
  subst this;refine cp ?_;refine am ?_;refine bi ?_;rw[TO];exact bX hk
end
namespace Tk
def aD.more (y:aD)(n:Int):aD:=⟨⟨y.number.min+n,y.number.max+n⟩,y.hour⟩
def lN (h:List Int)(n:Int):Nat->Int
 |0=> -1
 |i+1=>if h.getD i 0<=n/\n<h.getD (i+1) 0 then i else lN h n i
end Tk
section
variable {lv:Bool}{H:List aa}{k kp:AV->List aa->Prop}
theorem Jg{a b:Int}(hk:k (.agg [iv a,iv b]) H):bm lv SA 24 H [iv a,iv b] k kp:=by
 refine bG (rs:=[.cell 4 46]) (nt:=8) Tryz.f24 λhH hA=> ?_;simp only[br,SW];refine am ?_;refine am ?_;refine bi ?_;exact jm hH (Wk.refl _) (by simp[tn,eC]) hk
theorem P3{a b c:Int}(hk:k (Seen.av ⟨a,⟨b,c⟩⟩) H):bm lv SA 78 H [iv a,iv b,iv c] k kp:=by
 refine bG (rs:=[.cell 6 61]) (nt:=12) Tryz.f78 λhH hA=> ?_;simp only[br,SW];refine am ?_;refine am ?_;refine bi ?_;exact jm hH (Wk.refl _) (by simp[tn,eC]) hk
theorem qW{a b c d:Int}(hk:k (aD.av ⟨⟨a,b⟩,⟨c,d⟩⟩) H):bm lv SA 79 H [iv a,iv b,iv c,iv d] k kp:=by
 refine bG (rs:=[.cell 8 48]) (nt:=16) Tryz.f79 λhH hA=> ?_;simp only[br,SW];refine am ?_;refine am ?_;refine bi ?_;exact jm hH (Wk.refl _) (by simp[tn,eC]) hk
theorem ah0{h:List Int}{n:Int}{e:End}(hl:h.length<=4)(hk:k (iv (lN h n (h.length-1))) H):bm lv SA 40 H [.sl h.length (h.map iv) e,iv n] k kp:=by
 refine bG (rs:=[.tmp 4]) (nt:=31) Tryz.f40 λhH hA=> ?_;simp only[br,SW];refine am ?_;refine am ?_;refine am ?_;refine cP ?_;refine iu (h.length-1) (λi:Nat=>[(5,iv (lN h n i)),(6,iv i)]) (λ_=>_) (λi=>True) (λ_ _=>rfl) (by simp only[seval];simp[bC,Wk.refl];exact Wk.refl _) rfl (λ_ _ _=>rfl) trivial (λcq dG i cR _ R hR=> ?_);have fJ:SD.wrap ((i:Int)+1)=((i+1:Nat):Int):=by rw[bB _ (by omega)];rfl
 refine aj ?_;simp only[seval,fJ];refine aF ?_;refine⟨λhc=> ?_,λhc=> ?_⟩
 ·have bF:i+1<h.length:=by omega
  obtain⟨a,ha⟩:=cj (xs:=h) (i:=i) (by omega);obtain⟨b,hb⟩:=cj (xs:=h) (i:=i+1) bF;have fX:h.getD i 0=a:=by rw[SE,ha];rfl
  have dD:h.getD (i+1) 0=b:=by rw[SE,hb];rfl
  have iH:=jE (show i<h.length by omega);have oR:(0<=(i:Int)+1/\(i:Int)+1<(h.length:Int))=True:=by simp;omega
  have lF:((i:Int)+1).toNat=i+1:=by omega
  have c_:lN h n (i+1)=if a<=n/\n<b then(i:Int)else lN h n i:=by rw[lN,fX,dD]
  refine aO ?_;refine cP ?_;by_cases c1:a<=n
  ·have d1:decide (a<=n)=true:=decide_eq_true c1;by_cases c2:n<b
   ·have d2:decide (n<b)=true:=decide_eq_true c2;refine aj ?_;simp only[seval,e_ ha,e_ hb,iH,oR,lF,d1,d2,fJ];refine aF ?_;refine am ?_;refine aj ?_;simp only[seval,fJ];rw[if_pos ⟨c1,c2⟩]at c_;refine hR _ ⟨by omega,trivial,?_⟩;rw[c_];exact dF
   ·have d2:decide (n<b)=false:=decide_eq_false c2;refine aj ?_;simp only[seval,e_ ha,e_ hb,iH,oR,lF,d1,d2,fJ];refine aF ?_;refine aO ?_;refine aj ?_;simp only[seval,fJ];rw[if_neg (λhh=>c2 hh.2)]at c_;refine hR _ ⟨by omega,trivial,?_⟩;rw[c_];exact dF
  ·have d1:decide (a<=n)=false:=decide_eq_false c1;refine aj ?_;simp only[seval,e_ ha,iH,d1];refine aF ?_;refine aO ?_;refine aj ?_;simp only[seval,fJ];rw[if_neg (λhh=>c1 hh.1)]at c_;refine hR _ ⟨by omega,trivial,?_⟩;rw[c_];exact dF
 ·have du:i=h.length-1:=by omega
  subst du;refine cp ?_;refine am ?_;refine bi ?_;exact bX hk
end
open Go.Conc Go.Proofs Go.Gg.Tk
namespace Tk
end Tk
section
variable {lv:Bool}{H:List aa}{k kp:AV->List aa->Prop}
end
open Go.Conc Go.Proofs Go.Gg.Tk
def vF (τ:aZ)(ns:List Int):Int:=ns.getD (cU τ (ns.length-1)).toNat 0
section
variable {lv:Bool}{H:List aa}{k kp:AV->List aa->Prop}{Gf:aZ->List aa}{t N:Nat}{τ:aZ}{b:Int}
theorem Jh{ns:List Int}{e:End}(hT:dB Gf t N)(hτ:τ.Ok b)(hb:b<2^60)(hn:1<=ns.length)(iN:ns.length<2^20)(hk:k (iv (vF τ ns)) (Gf (tick τ))):bm lv SA 45 (Gf τ) [.op t 0,.sl ns.length (ns.map iv) e] k kp:=by
 refine bG (rs:=[.tmp 4]) (nt:=13) Tryz.f45 λhH hA=> ?_;simp only[br,SW];have bP:SD.wrap ((ns.length:Int)-1)=(ns.length:Int)-1:=bB _ (by omega);have hr:=jM τ ((ns.length:Int)-1);unfold vF at hk;obtain⟨j,hj⟩:=Int.eq_ofNat_of_zero_le hr.1;have eX:j<ns.length:=by omega
 obtain⟨v,hv⟩:=cj eX;rw[hj]at hk;have x6:ns.getD ((j:Int)).toNat 0=v:=by rw[VO,SE,hv];rfl
 rw[x6]at hk;refine am ?_;refine aj ?_;simp only[seval,bP];refine aL ((my hT hτ hb (by omega) ?_));rw[hj];(try simp only[seval,e_ hv,jE eX]);refine bi ?_;exact bX hk
end
end Go.Gg
