/- A part of the proof. -/
import Derived.Test.YtkanpclgnhdbiaaGreatDoorTicketReadCard2
import Derived.Conc.CrowdStepC
import Derived.Conc.LeavingOf
import Derived.Conc.AtomicLaws
import Derived.Conc.AtomicLaws2
import Derived.Conc.MarkLaws
import Derived.Conc.SmallLaws
import Derived.Laws.LoneSync
import Derived.KernelRfl
import Derived.Test.YtkanpclgnhdbiaaGreatDoorProg
import Derived.Conc.TokenWalk
set_option linter.all false
set_option maxRecDepth 4000
set_option maxHeartbeats 4000000
open Array renaming all_eq_true_iff_forall_mem->UD,append_assoc->Xp,empty_append->Xo,ext'->Vz,getD_eq_getD_getElem?->SI,getElem?_eq_getElem->SK,getElem?_eq_some_iff->SR,getElem?_push->Xg,getElem?_setIfInBounds->Wm,getElem?_setIfInBounds_ne->SU,getElem?_setIfInBounds_self_of_lt->S_,getElem_mem->XS,isEmpty_empty->YV,mem_iff_getElem?->YC,replicate->TL,size->Z'
open BitVec renaming ofInt->Ug
open Bool renaming and_eq_true->Tc,eq_iff_iff->Vk,false_or->XR,not_eq_true'->TV,not_false->YB,not_true->ai_,true_or->ae_
open Classical renaming byContradiction->Tu
open Eq renaming trans->VG
open Function renaming comp_def->Yw
open Go renaming Addr->U1,CallKind->Xb,Code->T5,Deferred->UV,Event->Uq,Frame->T9,FrameMode->U5,Func->ZP,FuncId->TQ,GStep->Zz,Goroutine->SH,IntKind->TU,Item->WR,Machine->apH,MemOp->V_,Oper->Tv,Operand->Ti,Program->SJ,ResultVar->UM,Trace->Um,Value->SO,World->Tp,mark->ab',step->ab_
open Go.Conc renaming Deaf->UR,Deaf_other->ate,Good->WV,Knows->Wi,QuitsD->Y2,act?_of->ad',casT_eq->ZX,crowd_pick->ZS,deaf_succ->Z9,finishComm_recv->Yv,finishComm_send->ad_,getElem?_stand->X8,heard_old->Wo,knows_own->Y',lt_size_of_getElem?->TH,mem_ofEvents->TM,mem_of_getElem?->XQ,offersAt_of_not_blocked->UT,offersAt_parked_send->ZB,offersAt_ph->Zj,runT_crowd_spawn->Z8,seen_none->Z7,served->T4,stepG_entry->ZA,stepG_same->Xa,stepG_value->atd,touch_of->US,woken_run->Yj
open Go.Conc.QuitsD renaming status->ZC
open Go.ConcN renaming le_sumTo->Wz,sumTo_congr->Vj
open Go.Event renaming mute->WC
open Go.Extern.Atomic renaming casT->WS,loadT->XZ,storeT->XP,update->XO
open Go.Extern.Race renaming marked->VF,none_->W3
open Go.Extern.Sync renaming semacquire->WB,semrelease->XN
open Go.GStep renaming after->T1
open Go.Goroutine.mk renaming injEq->ac'
open Go.Instr renaming loadAt->Xy,sureAddr->U9
open Go.IntKind renaming i64->SE,u32->ag',u64->TA,wrap->W_
open Go.MemAct renaming ofEvent->Ts
open Go.MemOp renaming ofEvents->Ta
open Go.Obj renaming deferred->atm
open Go.Op renaming intArith->atl
open Go.Operand renaming const->atk,tmp->asg
open Go.Proofs.Tryz renaming f77->XJ,prog->SC
open Go.Region renaming wanted->Th
open Go.Result renaming ok->Yf
open Go.Sem renaming runT_eq->TB
open Go.Trace renaming g?->Wx
open Go.Value renaming bool->W9,chan->XM,int->SG
open Go.World renaming cell?->Ux,frozen?->ZM,setChan->Wb
open Int renaming toNat_natCast->Vx
open List renaming any_cons->YP,any_eq_true->UL,append_assoc->SD,append_nil->SY,cons_append->VA,drop->Ue,drop_eq_nil_of_le->TS,ext_getElem?->Ym,findIdx?_eq_none_iff->Yd,findIdx?_eq_some_iff_getElem->Xr,flatMap_append->Vv,foldl_append->ZK,foldl_cons->UW,forall_mem_cons->Xd,getD_eq_getElem?_getD->SF,getElem?_append_left->SZ,getElem?_append_right->Tj,getElem?_drop->Uo,getElem?_eq_getElem->SV,getElem?_eq_none->Uu,getElem?_eq_some_iff->SM,getElem?_map->To,getElem?_range->Xv,getElem?_set->UI,getElem?_set_ne->T6,getElem?_toArray->Vd,getElem_mem->Wr,getLast?_eq_some_getLast->XL,getLastD_eq_getLast?->Vf,getLast_mem->Zm,head?_append->WK,length_append->SQ,length_cons->Ul,length_map->Tn,length_nil->UQ,length_pos_iff->Vq,length_range->Zv,length_singleton->T7,mapM_cons->T8,mapM_nil->Uz,mapM_toArray->XX,map_append->TE,map_cons->UU,mem_append->SS,mem_append_left->Tg,mem_append_right->S5,mem_cons->SL,mem_flatMap->S7,mem_iff_getElem?->UP,mem_map->Tm,mem_of_getElem?->Te,mem_range->TG,mem_replicate->Xu,mem_singleton->S8,mem_toArray->TK,nil_append->UC,nodup_append->U3,nodup_nil->WJ,nodup_range->XU,not_mem_nil->S4,range->S0,range_succ->Vh,replicate->TN,set_append_left->Ww,set_cons_succ->UA,set_cons_zero->TY,set_set->W4,take->T_,take_add_one->VE,take_append_of_le_length->Tx,take_length->TJ,take_of_length_le->SW,take_succ_cons->VQ,take_succ_eq_append_getElem->VZ
open List.cons renaming inj->Vu
open Nat renaming add_sub_cancel_left->U6,add_zero->UH,eq_zero_or_pos->UX,le_refl->SP,le_trans->UF,lt_of_lt_of_le->Td,lt_succ_self->Uv,reduceAdd->SX,reduceEqDiff->Zt
open Option renaming bind_eq_bind->TP,bind_eq_some_iff->Tf,getD_none->Vl,getD_some->S9,map_eq_some_iff->Tq,map_some->UN,pure_def->Uh
open Option.some renaming inj->Wj,injEq->Tl
open Prod.mk renaming inj->WW,injEq->UY
namespace Go.Gg
open Go.Conc Go.ConcN
section
variable {P:SJ}{n0:Nat}{W0:Tp}{V:View}{gs gs':Array SH}{w w':Tp}{sl:Option (Nat×Nat)}{t:Um}{K:Nat->GS}{Im:cq}{ic:Nat}{p:Phase}{st st':Option eg}
theorem N4{t:Um}{g i j:Nat}(hi:t.g? i=some g)(hj:t.g? j=some g)(h:i<=j):Before t i j:=by
 rcases Nat.eq_or_lt_of_le h with rfl|h
 ·exact .inl rfl
 ·obtain⟨a,ha,rfl⟩:=Tq.1 hi;obtain⟨b,hb,hg⟩:=Tq.1 hj;exact .inr (.single (.inl ⟨h,by simp[Wx,ha,hb,hg]⟩))
theorem Inv.ad6(h:Inv P n0 W0 V gs w t K Im ic (some p) st)(aH:p.recv=true){n:Nat}{gi:SH}(aM:gs[ic]?=some gi)(hK:K ic=.acq n)(jx:tj P Im p.c p.Wg (UR t ic) gi):gr P n0 W0 V gs w sl t K Im ic (some p) st ic:=by
 obtain⟨s,hs,gg,iI,hm⟩:=h.mode aH;obtain⟨m1,m2,m3,m4,m5⟩:=hm.NK (.inr (by rw[hK];rfl));obtain⟨hd,bH,g',aP,n',dL⟩:=jx;have nv:∀e∈#[jW (.acquire (dV p.Wg))],e=jW (.acquire (dV p.Wg)):=λe he=>by simpa using he
 have RF:g'.status=.running:=cP.running (λd g x=>x.2.1) dL;refine h.s9 aH (k':=.look n') (s':=.got) gg aM (aP w) (by rw[hd];exact dL) (by rw[hK];exact FY Im) (λ_=>rfl) rfl (λj hj=>by rw[hK]at hj;cases hj) (.inl rfl) (λe he x hx=> ?_) (λe he=> ?_) (λe he a=> ?_) rfl (λ_ _ _=>rfl) rfl rfl rfl
  ?_ (.inl m1) ?_ (xS iI (by rw[hK];exact .inl (by simp[GS.cY])))
 ·rw[nv e he]at hx;cases hx
 ·rw[nv e he];exact h.low.2
 ·rw[nv e he];simp[jW,Ts]
 ·unfold Mode;have e1:sumTo gs.size (λi=>(upd K ic (.look n') i).cnt)=0:=by rw[lh K (.look n') GS.cnt (by rw[hK];rfl)];exact m4
  have e2:sumTo gs.size (λi=>(upd K ic (.look n') i).late)=0:=by rw[lh K (.look n') GS.late (by rw[hK];rfl)];exact m3
  simp only[e1,e2,bu];exact .inr (.inr (.inr (.inr (.inr (.inl ⟨m1,trivial,trivial,trivial,.inl rfl⟩)))))
 ·have hr:Rest p.Wg t K ic st:=h.out.2.2.1;rw[hs,m2]at hr;rw[ofEvents_one];refine hr.app (λidx a ha hx=> .inr ?_) (λidx a _ ⟨op,au,_,hx⟩ _=> ?_)
  ·obtain⟨i,JV,eO,hx⟩:=hx;have aj8:=h.core.ti.norel;have own:t.g? idx=some ic->Wi (t++#[{g:=ic,fn:=gi.frame.fn,pos:=gi.frame.place,act:=.ofEvent (jW (.acquire (dV p.Wg)))}]) ic idx:=λe=>by
    obtain⟨op,ho,oX⟩:=Tq.1 e;rw[<- oX];exact(Y' ho).app _
   rcases hx with hx|rfl|⟨r,q_,hle⟩
   ·exfalso;have ajT:i<gs.size:=by
     obtain⟨op,ho,oX⟩:=Tq.1 JV;rw[<- oX];exact h.core.ti.gs op (XQ ho)
    have gK:(K i).cnt=1:=by cases kQ:K i<;>rw[kQ]at hx<;>first|rfl|cases hx
    have hle:(K i).cnt<=sumTo gs.size λi=>(K i).cnt:=Wz (f:=λi=>(K i).cnt) ajT;omega
   ·exact own JV
   ·exact ad7 q_.act q_.heard aj8 ⟨rfl,rfl⟩ hd (N4 JV q_.g hle)
  ·simp only[TK,SL,S4,or_false]at au;subst au;cases hx
theorem Rest.got{Wg:Nat}(hr:Rest Wg t K ic (some .got)){es:Array Uq}{fn:TQ}{pos:String}{K':Nat->GS}:Rest Wg (t++Ta ic fn pos es) K' ic (some .got):=by
 refine hr.app (λidx a ha hx=> .inr (Knows.app _ hx)) (λidx a _ ⟨op,au,cW,_⟩ _=> .inr (.inr ?_));obtain⟨e,_,rfl⟩:=TM au;exact Y' cW
theorem Inv.amf(h:Inv P n0 W0 V gs w t K Im ic (some p) st)(aH:p.recv=true){n:Nat}{gi:SH}(aM:gs[ic]?=some gi)(hK:K ic=.look n)(jx:Ho P Im p.c (UR t ic) gi):gr P n0 W0 V gs w sl t K Im ic (some p) st ic:=by
 obtain⟨s,hs,gg,iI,hm⟩:=h.mode aH;obtain⟨m1,m2,m3,m4⟩:=hm.NL (.inl (by rw[hK];rfl));obtain⟨hd,bH,b,o,x,g',lA,aP,n',dL⟩:=jx;have fq:Sat ((K ic).view Im) w:=by have:=h.core.sat ic iI;rwa [show bD V Im K ic=(K ic).view Im by simp[bD];omega]at this
 have JA:=fq.ab b o x (by rw[hK];exact lA);have hb:=fq.Ct (show ((K ic).view Im).ab b o=some x by rw[hK];exact lA);have nv:∀e∈(#[⟨.cell ⟨b,o,none⟩,false,false⟩]:Array Uq),e=⟨.cell ⟨b,o,none⟩,false,false⟩:=λe he=>by simpa using he
 have cL:=h.blind gg;refine h.s9 aH (k':=.close n') (s':=.got) gg aM (aP w JA) (by rw[hd];exact dL) (by rw[hK];exact al0 Im) (λ_=>rfl) rfl (λj hj=>by rw[hK]at hj;cases hj) (.inl rfl) (λe he y hy=> .inr (.inr ?_)) (λe he=> ?_) (λe he a=> ?_) rfl (λ_ _ _=>rfl) rfl rfl rfl
  ?_ (.inl m1) ?_ (xS iI (by rw[hK];exact .inl (by simp[GS.cY])))
 ·rw[nv e he]at hy;cases hy;refine⟨λdG=> ?_,.inr (by rw[hK];show Im b o≠none;rw[lA];simp),rfl⟩;have e1:b=p.Wg:=dG;have:=cL.2.2.2 o;rw[hK]at this;have e2:Im p.Wg o=none:=this;rw[<- e1,lA]at e2;cases e2
 ·rw[nv e he];exact hb
 ·rw[nv e he];simp[Ts]
 ·unfold Mode;have e1:sumTo gs.size (λi=>(upd K ic (.close n') i).cnt)=0:=by rw[lh K (.close n') GS.cnt (by rw[hK];rfl)];exact m4
  have e2:sumTo gs.size (λi=>(upd K ic (.close n') i).late)=0:=by rw[lh K (.close n') GS.late (by rw[hK];rfl)];exact m3
  simp only[e1,e2,bu];exact .inr (.inr (.inr (.inr (.inr (.inl ⟨m1,trivial,trivial,trivial,.inr rfl⟩)))))
 ·have hr:Rest p.Wg t K ic st:=h.out.2.2.1;rw[hs,m2]at hr;exact hr.got
theorem Inv.afQ(h:Inv P n0 W0 V gs w t K Im ic (some p) st)(aH:p.recv=true){n:Nat}{gi:SH}(aM:gs[ic]?=some gi)(hK:K ic=.close n)(jx:Hl P p.c (UR t ic) gi):gr P n0 W0 V gs w sl t K Im ic (some p) st ic:=by
 obtain⟨s,hs,gg,iI,hm⟩:=h.mode aH;obtain⟨⟨nn,m1⟩,m2,m3,m4⟩:=hm.NL (.inr (by rw[hK];rfl));obtain⟨hd,bH,Kh,g',aP,q,l6⟩:=jx;have lF:=aP w nn m1;have fA:∀e∈(#[⟨.obj p.c,false,true⟩,⟨.obj p.c,true,true⟩]:Array Uq),e=⟨.obj p.c,false,true⟩\/e=⟨.obj p.c,true,true⟩:=λe he=>by simpa using he
 have Kk:∀j,0<j->j<gs.size->j≠ic->(K j).idx=none:=λj _ hj _=>by
  have hle:(K j).cnt<=sumTo gs.size λi=>(K i).cnt:=Wz (f:=λi=>(K i).cnt) hj;exact GS.Sa (by omega)
 have JX:g'.status=.running\/g'.status=.finished:=ZC l6;have qS:p.c≠p.Wg:=h.phase.2.2.1;have JB:=h.low.1;have eu:Ta ic gi.frame.fn gi.frame.place #[⟨.obj p.c,false,true⟩,⟨.obj p.c,true,true⟩]=#[{g:=ic,fn:=gi.frame.fn,pos:=gi.frame.place,act:=.ofEvent ⟨.obj p.c,false,true⟩},{g:=ic,fn:=gi.frame.fn,pos:=gi.frame.place,act:=.close p.c}]:=by simp[Ta,Ts]
 have g1:=qK (t:=t) (show (#[({g:=ic,fn:=gi.frame.fn,pos:=gi.frame.place,act:=.ofEvent ⟨.obj p.c,false,true⟩}:V_),{g:=ic,fn:=gi.frame.fn,pos:=gi.frame.place,act:=.close p.c}]:Um)[1]?=some _ from rfl);have nA:∀op∈(#[({g:=ic,fn:=gi.frame.fn,pos:=gi.frame.place,act:=.ofEvent ⟨.obj p.c,false,true⟩}:V_),{g:=ic,fn:=gi.frame.fn,pos:=gi.frame.place,act:=.close p.c}]:Um),still op.act:=by
  intro op au;simp only[TK,SL,S4,or_false]at au;rcases au with rfl|rfl<;>exact⟨by simp[Ts],by simp[Ts]⟩
 have Qv:∃n,({w with heap:=w.heap.setIfInBounds p.c (.chan 0 #[] true nn nn false)}:Tp).heap[p.c]?=some (.chan 0 #[] true n n false):=⟨nn,by simp[JB]⟩;refine h.s9 aH (k':=.gone q) (s':=.shut (t.size+1)) gg aM lF (by rw[hd];exact l6) (by rw[hK];exact FZ _) (λ_=>rfl) rfl (λj hj=>by rw[hK]at hj;cases hj) (.inl rfl) (λe he x hx=> .inl ?_) (λe he=> ?_) (λe he a=> ?_) (by simp) (λb hb _=>by simp[Wm,Ne.symm hb]) rfl rfl rfl
  ?_ (.inr ⟨Kk,λg hg=>anr gg hg Kh JX Qv⟩) ?_ (xS iI (by rw[hK];exact .inl (by simp[GS.cY])))
 ·rcases fA e he with rfl|rfl
  ·cases hx;exact⟨rfl,rfl⟩
  ·cases hx
 ·rcases fA e he with rfl|rfl
  ·exact JB
  ·exact JB
 ·rcases fA e he with rfl|rfl<;>simp[Ts]
 ·unfold Mode;have e1:sumTo gs.size (λi=>(upd K ic (.gone q) i).cnt)=0:=by rw[lh K (.gone q) GS.cnt (by rw[hK];rfl)];exact m4
  have e2:sumTo gs.size (λi=>(upd K ic (.gone q) i).late)=0:=by rw[lh K (.gone q) GS.late (by rw[hK];rfl)];exact m3
  simp only[e1,e2,bu];obtain⟨n,hn⟩:=Qv;refine .inr (.inr (.inr (.inr (.inr (.inr ⟨⟨t.size+1,n,rfl,?_,?_,hn⟩,trivial,trivial,rfl⟩)))))
  ·rw[eu];exact ad' g1
  ·rw[eu];exact heard_new (k:=1) rfl rfl (by rw[tL nA (by simp)];exact hd)
 ·have hr:Rest p.Wg t K ic st:=h.out.2.2.1;rw[hs,m2]at hr;rw[eu];refine hr.app (λidx a ha hx=> .inr (.inr (Knows.hb_new hx (by omega) g1 rfl))) (λidx a hi ⟨op,au,cW,_⟩ _=> .inr (.inr ?_));have hlt:idx<t.size+2:=by have:=TH cW;simpa using this
  have oX:op.g=ic:=by
   simp only[TK,SL,S4,or_false]at au;rcases au with rfl|rfl<;>rfl
  exact N4 (g:=ic) (by simp[Wx,cW,oX]) (by simp[Wx,g1]) (by omega)
structure DJ (P:SJ)(n0:Nat)(W0:Tp)(V:View)(gs:Array SH)(w:Tp)(sl:Option (Nat×Nat))(t:Um)(Im:cq)(ic:Nat)(p:Phase)(st:Option eg)(g:SH)(i:Nat):Prop where
 intro::
 met:∃gs' w' ops K' j sp S v kI Ow,runT P (crowd gs w sl) i=(.next (crowd gs' w' sl),ops)/\gs'.size=gs.size/\kj gs' (T4 g (.tuple #[v,.bool true]))/\p.Ss[j]?=some (sp::S)/\sp v kI Ow/\(∀b,V.own b≠none->Ow b=none)/\(∀b o,V.own b≠none->kI b o≠none->V.ab b o≠none)/\
  (∃w,Sat V w/\(∀b o x,kI b o=some x->w.cell? ⟨b,o,none⟩=some x)/\∀b x,Ow b=some x->w.heap[b]?=some x)/\
  Inv P n0 W0 (nD V kI Ow (.recv p.c p.Wg (p.Ss.set j S))) gs' w' (t++ops) K' Im ic (some {p with Ss:=p.Ss.set j S}) st
theorem Inv.apz(h:Inv P n0 W0 V gs w t K Im ic (some p) st)(aH:p.recv=true)(iD:V.deaf=0){g:SH}(hm:nN gs g p.c){i j:Nat}{gi:SH}{hh h':Ht}{Vi V₁:View}{c Wg:Nat}{sp:Spec}{S:List Spec}{v z:SO}{B:Nat->Bool}(hi:0<i)(aM:gs[i]?=some gi)
  (hK:K i=.work j hh Vi) (hg:dT Vi V₁) (hr:V₁.role=.work c Wg (sp::S)) (hd:V₁.deaf=0) (aP:stepG P false gi w=.comm gi #[scase c v z] true .send w #[])
  (xD:sp v V₁.ab (lN B V₁)) (hk:lq P h' (lK B V₁ (.work c Wg S)) (T4 gi undef)):DJ P n0 W0 V gs w sl t Im ic p st g i:=by
 have hlt:i<gs.size:=(SR.1 aM).1;have de:=h.is i gi hi aM;simp only[hK,GS.is]at de;obtain⟨bw,_,S',hS,iZ⟩:=de;rw[hg.role,iZ]at hr;cases hr;have gK:(K i).cnt=1:=by rw[hK];rfl
 obtain⟨⟨n,gC⟩,kZ⟩:=h.counted hi hlt gK;have eO:(i==0)=false:=by simp;omega
 obtain⟨g0,z0,h0,kU,iG,mE⟩:=hm;have hp:partners (gs.setIfInBounds i ph) p.c false=[(0,0)]:=by
  have Es:(gs.setIfInBounds i ph)[0]?=some (parked g0 #[rcase p.c z0] (.recv true)):=by rw[SU (by omega)];exact h0
  rw[partners_one Es (λm x hm hx=> ?_),offersAt_parked_recv]
  ·simp
  ·rcases X8 gs i m x hx with⟨_,rfl⟩|⟨_,jy⟩
   ·exact Zj _ _
   ·exact aaZ (h.is m x (by omega) jy) _
 have bH:=crowd_send_meets (P:=P) (sl:=sl) (i:=i) aM (by rw[eO];exact aP) gC (by omega) h0 hp;rw[Yv,ad_]at bH;have l8:(K i).view Im=Vi:=by rw[hK];rfl
 have aV:((gs.setIfInBounds 0 (T4 g0 (recvd true v true))).setIfInBounds i (T4 gi undef)).size=gs.size:=by simp
 have aQ:UR t i=0:=by rw[bw,<- hg.deaf,hd]
 have Cf:Sat V₁ w:=by
  have:=h.core.sat i hlt;rw[show bD V Im K i=(K i).view Im by simp[bD];omega,l8]at this;exact hg.sat w this
 have KF:Sat V w:=by have:=h.core.sat 0 h.pos;rwa [show bD V Im K 0=V by simp[bD]]at this
 have uf:=h.met (gs':=(gs.setIfInBounds 0 (T4 g0 (recvd true v true))).setIfInBounds i (T4 gi undef)) (w':=w.setChan p.c 0 #[] false (n+1) (n+1) false) (gi:=gi) (h':=h') (V₁:=V₁) (S:=S) (sp:=sp) (B:=B) aH iD hi hlt (by rw[hK];rfl) (by rw[l8];exact hg) (by rw[hg.role,iZ]) hd aQ hS hk aV
  (by rw[S_ (by simpa using hlt)]) (λm hm iJ=>by rw[SU (Ne.symm hm),SU (by omega)])
  (u:=Ta i gi.frame.fn gi.frame.place #[]++#[{g:=i,fn:=gi.frame.fn,pos:=gi.frame.place,act:=.send p.c n},{g:=0,fn:=g0.frame.fn,pos:=g0.frame.place,act:=.recv p.c n 0},
    {g:=i,fn:=gi.frame.fn,pos:=gi.frame.place,act:=.sendDone p.c n},{g:=0,fn:=g0.frame.fn,pos:=g0.frame.place,act:=.recvDone p.c n}]) (s:=n) (by simp only[Ta,YV,if_true,Xo];rfl) ⟨rfl,rfl⟩ ⟨rfl,rfl⟩ ⟨rfl,rfl⟩ ⟨rfl,rfl⟩
  (by simp[Wb]) (λb hb=>by simp[Wb,Wm,Ne.symm hb]) ⟨n+1,by simp[Wb,h.low.1]⟩ rfl rfl rfl
 refine⟨_,_,_,_,j,sp,S,v,V₁.ab,lN B V₁,bH,aV,⟨T4 g0 (recvd true v true),?_,rfl,?_,iG,mE⟩,hS,xD,uf.1,uf.2.1,⟨w,KF,Cf.ab,λb x e=> ?_⟩,uf.2.2⟩
 ·rw[SU (by omega),S_ h.pos]
 ·simp only[T4,kU];rfl
 ·unfold lN at e;split at e
  ·exact Cf.own b x e
  ·cases e
theorem Inv.aoG(h:Inv P n0 W0 V gs w t K Im ic (some p) st)(aH:p.recv=true)(iD:V.deaf=0){g:SH}{z:SO}(hm:kj gs g)(aP:stepG P true g w=.comm g #[rcase p.c z] true (.recv true) w #[])
  (hw:∃i j h' V₁ V₂ g1 v z1,0<i/\i<gs.size/\K i=.nI j h' V₁ V₂ g1 v z1):DJ P n0 W0 V gs w sl t Im ic p st g 0:=by
 obtain⟨g0,h0,hf0,kU,iG,mE⟩:=hm;have kZ:stepG P (0==0) g0 w=.comm g #[rcase p.c z] true (.recv true) w #[]:=by rw[<- aP];exact Xa kU iG mE w
 obtain⟨i0,j0,a0,a1,a2,a3,a4,a5,b0,b1,b2⟩:=hw;have ajo:(K i0).cnt=1:=by rw[b2];rfl
 obtain⟨⟨n,gC⟩,Fw⟩:=h.counted b0 b1 ajo;have sR:gs[i0]?=some gs[i0]:=SK b1;have fy:∀j k,(j,k)∈partners (gs.setIfInBounds 0 ph) p.c true->k=0/\j≠0/\∃gj vj zj MI,gs[j]?=some (parked gj #[scase p.c vj zj] MI):=by
  intro j k hjk;obtain⟨x,hx,hk⟩:=mem_partners.1 hjk;rcases X8 gs 0 j x hx with⟨_,rfl⟩|⟨hj0,jy⟩
  ·rw[Zj]at hk;cases hk
  ·rcases GS.runs (h.is j x (by omega) jy)with hr|⟨hf,_⟩|⟨q,h',V1,V2,g1,v,z1,e⟩|⟨_,hb,ho⟩
   ·rw[UT (by rw[hr];simp)]at hk;cases hk
   ·rw[UT (by rw[hf];simp)]at hk;cases hk
   ·have:=h.is j x (by omega) jy;simp only[e,GS.is]at this;obtain⟨_,_,rfl,_⟩:=this;rw[ZB]at hk;simp at hk;exact⟨hk,hj0,g1,v,z1,.send,jy⟩
   ·have:offersAt x p.c true=[]:=(by unfold offersAt;simp[hb,ho]);rw[this]at hk;cases hk
 have aG:partners (gs.setIfInBounds 0 ph) p.c true≠[]:=by
  intro e;have fA:(i0,0)∈partners (gs.setIfInBounds 0 ph) p.c true:=by
   have:=h.is i0 _ b0 sR;simp only[b2,GS.is]at this;obtain⟨_,_,iY,_⟩:=this;refine mem_partners.2 ⟨gs[i0],by rw[SU (by omega)];exact sR,?_⟩;rw[iY,ZB];simp
  rw[e]at fA;cases fA
 obtain⟨i,gj,vj,zj,MI,d,eO,aM,bH⟩:=crowd_recv_meets_some (P:=P) (sl:=sl) h0 kZ gC aG fy;have hi:0<i:=by omega
 have hlt:i<gs.size:=(SR.1 aM).1;obtain⟨j,h',V₁,V₂,g1,v,z1,hK⟩:∃j h' V₁ V₂ g1 v z1,K i=.nI j h' V₁ V₂ g1 v z1:=by
  rcases GS.runs (h.is i _ hi aM)with hr|⟨hf,_⟩|x|⟨_,_,ho⟩
  ·cases hr
  ·cases hf
  ·exact x
  ·cases ho
 have de:=h.is i _ hi aM;simp only[hK,GS.is]at de;obtain⟨bw,hd,iY,hk,sp,S,B,hS,iZ,xD,yQ⟩:=de;have efr:gj.frame=g1.frame/\gj.callers=g1.callers/\gj.dying=g1.dying/\vj=v/\zj=z1/\MI=.send:=by
  simp only[parked,ac',Tl,UY]at iY;obtain⟨e1,e2,_,e3,e4,e5⟩:=iY;simp[scase]at e4;exact⟨e1,e2,e3,e4.1,e4.2,e5⟩
 obtain⟨e1,e2,e3,rfl,rfl,rfl⟩:=efr;have esv:T4 gj undef=T4 g1 undef:=by simp[T4,e1,e2,e3]
 rw[ad_,Yv,esv]at bH;subst yQ;have l8:(K i).view Im=V₁:=by rw[hK];rfl
 have aV:((gs.setIfInBounds i (T4 g1 undef)).setIfInBounds 0 (T4 g (recvd true vj true))).size=gs.size:=by simp
 have Cf:Sat V₁ w:=by
  have:=h.core.sat i hlt;rwa [show bD V Im K i=(K i).view Im by simp[bD];omega,l8]at this
 have KF:Sat V w:=by have:=h.core.sat 0 h.pos;rwa [show bD V Im K 0=V by simp[bD]]at this
 have uf:=h.met (gs':=(gs.setIfInBounds i (T4 g1 undef)).setIfInBounds 0 (T4 g (recvd true vj true))) (w':=(w.at d).setChan p.c 0 #[] false (n+1) (n+1) false) (gi:=g1) (h':=h') (V₁:=V₁) (S:=S) (sp:=sp) (B:=B) aH iD hi hlt (by rw[hK];rfl) (by rw[l8];exact dT.refl _) iZ hd bw hS hk aV
  (by rw[SU (by omega),S_ hlt]) (λm hm iJ=>by rw[SU (by omega),SU (Ne.symm hm)])
  (u:=Ta 0 g0.frame.fn g0.frame.place #[]++#[{g:=i,fn:=gj.frame.fn,pos:=gj.frame.place,act:=.send p.c n},{g:=0,fn:=g.frame.fn,pos:=g.frame.place,act:=.recv p.c n 0},
    {g:=i,fn:=gj.frame.fn,pos:=gj.frame.place,act:=.sendDone p.c n},{g:=0,fn:=g.frame.fn,pos:=g.frame.place,act:=.recvDone p.c n}]) (s:=n) (by simp only[Ta,YV,if_true,Xo];rfl) ⟨rfl,rfl⟩ ⟨rfl,rfl⟩ ⟨rfl,rfl⟩ ⟨rfl,rfl⟩
  (by simp[Wb,World.at]) (λb hb=>by simp[Wb,World.at,Wm,Ne.symm hb]) ⟨n+1,by simp[Wb,World.at,h.low.1]⟩ rfl rfl rfl
 refine⟨_,_,_,_,j,sp,S,vj,V₁.ab,lN B V₁,bH,aV,⟨T4 g (recvd true vj true),?_,rfl,rfl,rfl,rfl⟩,hS,xD,uf.1,uf.2.1,⟨w,KF,Cf.ab,λb x e=> ?_⟩,uf.2.2⟩
 ·rw[S_ (by simpa using h.pos)]
 ·unfold lN at e;split at e
  ·exact Cf.own b x e
  ·cases e
end
section
variable {P:SJ}{n0:Nat}{W0:Tp}{V:View}{gs gs':Array SH}{w w':Tp}{sl:Option (Nat×Nat)}{t:Um}{K:Nat->GS}{Im:cq}{ic:Nat}{ph:Option Phase}{p:Phase}{st st':Option eg}
theorem Inv.s_(h:Inv P n0 W0 V gs w t K Im ic (some p) st){i n:Nat}{gi:SH}{Stop:Nat->SH->Prop}{mk:Nat->GS}(hi:0<i)(aM:gs[i]?=some gi)(hK:K i=mk n)(dL:cP P Stop n (UR t i) gi)
  (qY:∀n d g,cP P Stop n d g->(mk n).is P p.c p.Wg Im p.Ss d g) (dG:∀n m,(mk n).shape=(mk m).shape) (KU:∀n m,(mk n).view Im=(mk m).view Im) (KD:∀n,qz (mk n).cY (mk (n+1)).cY) (zp:∀d g,Stop d g->g.status=.running)
  (hgo:Stop (UR t i) gi->gr P n0 W0 V gs w sl t K Im ic (some p) st i):gr P n0 W0 V gs w sl t K Im ic (some p) st i:=by
 cases n with
 |zero=>exact hgo dL
 |succ n=>
  rcases dL with hs|⟨hr,g',es,hm,aP,hs⟩
  ·exact hgo hs
  ·exact h.slip (k':=mk n) hi aM (aP w) hm (qY _ _ _ hs) (λx=>by rw[cP.running zp hs]at x;cases x) (by rw[hK];exact dG _ _) (by rw[hK];exact KU _ _) (λ_=>cP.running zp hs) (by rw[hK];exact KD n)
theorem Inv.ab5(h:Inv P n0 W0 V gs w t K Im ic (some p) st){i n:Nat}{gi:SH}{Stop:Nat->SH->Prop}{mk:Nat->GS}(hi:0<i)(aM:gs[i]?=some gi)(hK:K i=mk n)(hW:∃x y,WgAt P p.Wg w x y)(dL:gR P p.Wg Stop n (UR t i) gi)
  (qY:∀n d g,gR P p.Wg Stop n d g->(mk n).is P p.c p.Wg Im p.Ss d g) (dG:∀n m,(mk n).shape=(mk m).shape) (KU:∀n m,(mk n).view Im=(mk m).view Im) (KD:∀n,qz (mk n).cY (mk (n+1)).cY) (zp:∀d g,Stop d g->g.status=.running)
  (hgo:Stop (UR t i) gi->gr P n0 W0 V gs w sl t K Im ic (some p) st i):gr P n0 W0 V gs w sl t K Im ic (some p) st i:=by
 cases n with
 |zero=>exact hgo dL
 |succ n=>
  rcases dL with hs|⟨hr,g',es,hm,aP,hs⟩
  ·exact hgo hs
  ·exact h.slip (k':=mk n) hi aM (aP w _ _ hW.choose_spec.choose_spec) hm (qY _ _ _ hs) (λx=>by rw[gR.running zp hs]at x;cases x) (by rw[hK];exact dG _ _) (by rw[hK];exact KU _ _) (λ_=>gR.running zp hs) (by rw[hK];exact KD n)
theorem Inv.other(h:Inv P n0 W0 V gs w t K Im ic ph st){g:SH}(oV:kj gs g\/∃p,ph=some p/\p.recv=true/\V.deaf=0/\nN gs g p.c){i:Nat}{gi:SH}(hi:0<i)(aM:gs[i]?=some gi)(bH:gi.status=.running):
  gr P n0 W0 V gs w sl t K Im ic ph st i\/∃p,ph=some p/\DJ P n0 W0 V gs w sl t Im ic p st g i/\nN gs g p.c:=by
 have hlt:i<gs.size:=(SR.1 aM).1;have de:=h.out.1 i gi hi aM;have gone:∀q,K i=.gone q->Y2 P q (UR t i) gi->gr P n0 W0 V gs w sl t K Im ic ph st i:=by
  intro q hK hq;cases q with
  |zero=>rw[hq.1]at bH;cases bH
  |succ q=>
   rcases hq with⟨hf,_⟩|⟨_,g',es,hm,aP,sM⟩
   ·rw[hf]at bH;cases bH
   ·refine h.slip (k':=.gone q) hi aM (aP w) hm ?_ (λx=>by rcases sM.status with e|e<;>rw[e]at x<;>cases x) (by rw[hK];rfl) (by rw[hK];rfl) (λx=>by rw[hK]at x;rcases x with x|x<;>cases x) (by rw[hK];exact .inr ⟨rfl,.inr ⟨rfl,Uv _⟩⟩);cases ph with
    |none=>exact⟨q,rfl,sM⟩
    |some p=>exact sM
 cases ph with
 |none=>
  obtain⟨q,hK,hq⟩:=de;exact .inl (gone q hK hq)
 |some p=>
  have eV:(K i).is P p.c p.Wg Im p.Ss (UR t i) gi:=de;have pZ:(K i).idx=none->(∀q,K i≠ .gone q)->p.recv=true:=λh1 h2=>by
   cases aH:p.recv with
   |true=>rfl
   |false=>
    have hx:=h.phase.2.2.2.2.2.2.2.2.2;rw[if_neg (by rw[aH];simp)]at hx;rcases hx.2.2.2.1 i hi hlt with x|⟨q,x⟩
    ·rw[h1]at x;cases x
    ·exact absurd x (h2 q)
  cases hK:K i with
  |gone q=>rw[hK]at eV;exact .inl (gone q hK eV)
  |nI j h' V1 V2 g0 v z=>
   rw[hK]at eV;obtain⟨_,_,rfl,_⟩:=eV;cases bH
  |work j hh Vi=>
   rw[hK]at eV;obtain⟨hd,KW,S,hS,iZ⟩:=eV;have l8:bD V Im K i=Vi:=(by simp[bD,hK,GS.view];omega);have fq:Sat Vi w:=(by have:=h.core.sat i hlt;rwa [l8]at this);cases KW with
   |step G' W' E' V' hs hg h1 h2 h3=>
    exact .inl (h.ac1 hi aM hK (h1 w (hg.sat w fq)) (da.rA hg (h2 w (hg.sat w fq))) (h3 w (hg.sat w fq)) (.mk _ w))
   |send c Wg sp S1 v z B hs hg hr c9 ho h1 h2 h3=>
    have er:mS.work p.c p.Wg S=.work c Wg (sp::S1):=(by rw[<- iZ,<- hg.role,hr]);cases er;rcases oV with hm|⟨p',zk,aH,iD,hm⟩
    ·exact .inl (h.arw hm hi aM hK hg hr c9 (h1 w (hg.sat w fq)) h2 h3)
    ·cases zk;exact .inr ⟨p,rfl,h.apz aH iD hm hi aM hK hg hr c9 (h1 w (hg.sat w fq)) h2 h3,hm⟩
   |done c Wg hg hr c9 h1=>
    have er:mS.work p.c p.Wg S=.work c Wg []:=(by rw[<- iZ,<- hg.role,hr]);cases er;refine .inl (h.release ?_ hi aM hK hg hr c9 h1);cases aH:p.recv with
    |true=>rfl
    |false=>
     have hx:=h.phase.2.2.2.2.2.2.2.2.2;rw[if_neg (by rw[aH];simp)]at hx;exact absurd rfl (hx.2.2.2.2.1 [] (Te hS))
   |slip c Wg hs hg hr h1 h3=>
    have er:mS.work p.c p.Wg S=.work c Wg []:=(by rw[<- iZ,<- hg.role,hr]);cases er;have aH:p.recv=true:=by
     cases aH:p.recv with
     |true=>rfl
     |false=>
      have hx:=h.phase.2.2.2.2.2.2.2.2.2;rw[if_neg (by rw[aH];simp)]at hx;exact absurd rfl (hx.2.2.2.2.1 [] (Te hS))
    obtain⟨s,hW⟩:=h.afX aH hlt (by rw[hK];rfl);exact .inl (h.ac1 hi aM hK (h1 w s (hg.sat w fq) hW) (da.rA hg (da.idle (hg.sat w fq))) h3 (Ar.mk (λ_=>_) w))
  |add n=>
   rw[hK]at eV;have aH:=pZ (by rw[hK];rfl) (λq=>by rw[hK];simp);exact .inl (h.s_ (mk:=.add) hi aM hK eV (λ_ _ _ x=>x) (λ_ _=>rfl) (λ_ _=>rfl) (λn=> .inr ⟨rfl,.inr ⟨rfl,Uv _⟩⟩) (λ_ _ x=>x.2.1) (λhs=>h.aeb aH hi aM hK hs))
  |load n=>
   rw[hK]at eV;have aH:=pZ (by rw[hK];rfl) (λq=>by rw[hK];simp);exact .inl (h.s_ (mk:=.load) hi aM hK eV (λ_ _ _ x=>x) (λ_ _=>rfl) (λ_ _=>rfl) (λn=> .inr ⟨rfl,.inr ⟨rfl,Uv _⟩⟩) (λ_ _ x=>x.2.1) (λhs=>h.ame aH hi aM hK hs))
  |store n=>
   rw[hK]at eV;have aH:=pZ (by rw[hK];rfl) (λq=>by rw[hK];simp);exact .inl (h.s_ (mk:=.store) hi aM hK eV (λ_ _ _ x=>x) (λ_ _=>rfl) (λ_ _=>rfl) (λn=> .inr ⟨rfl,.inr ⟨rfl,Uv _⟩⟩) (λ_ _ x=>x.2.1) (λhs=>h.aqm aH hi aM hK hs))
  |mh n=>
   rw[hK]at eV;have aH:=pZ (by rw[hK];rfl) (λq=>by rw[hK];simp);exact .inl (h.s_ (mk:=.mh) hi aM hK eV (λ_ _ _ x=>x) (λ_ _=>rfl) (λ_ _=>rfl) (λn=> .inr ⟨rfl,.inr ⟨rfl,Uv _⟩⟩) (λ_ _ x=>x.2.1) (λhs=>h.apy aH hi aM hK hs))
  |head k n=>
   rw[hK]at eV;have aH:=pZ (by rw[hK];rfl) (λq=>by rw[hK];simp);have fM:i=ic:=h.rH hi (by rw[hK];rfl);exact .inl (h.s_ (mk:=.head k) hi aM hK eV (λ_ _ _ x=>x) (λ_ _=>rfl) (λ_ _=>rfl) (λn=> .inr ⟨rfl,.inr ⟨rfl,Uv _⟩⟩) (λ_ _ x=>QE x) (λhs=>by subst fM;exact h.ajJ aH aM hK hs))
  |lW v n=>
   rw[hK]at eV;have aH:=pZ (by rw[hK];rfl) (λq=>by rw[hK];simp);have fM:i=ic:=h.rH hi (by rw[hK];rfl);exact .inl (h.s_ (mk:=.lW v) hi aM hK eV (λ_ _ _ x=>x) (λ_ _=>rfl) (λ_ _=>rfl) (λn=> .inr ⟨rfl,.inr ⟨rfl,Uv _⟩⟩) (λ_ _ x=>x.2.1) (λhs=>by subst fM;exact h.afL aH aM hK hs))
  |said n=>
   rw[hK]at eV;have aH:=pZ (by rw[hK];rfl) (λq=>by rw[hK];simp);have fM:i=ic:=h.rH hi (by rw[hK];rfl);exact .inl (h.ab5 (mk:=.said) hi aM hK (h.NC aH (n:=n) (.inr (by rw[<- fM];exact hK))) eV (λ_ _ _ x=>x) (λ_ _=>rfl) (λ_ _=>rfl) (λn=> .inr ⟨rfl,.inr ⟨rfl,Uv _⟩⟩) (λ_ _ x=>x.2.1) (λhs=>by subst fM;exact h.ape aH aM hK hs))
  |gU n=>
   rw[hK]at eV;have aH:=pZ (by rw[hK];rfl) (λq=>by rw[hK];simp);have fM:i=ic:=h.rH hi (by rw[hK];rfl);rcases eV with eV|⟨_,g1,rfl,_⟩
   ·exact .inl (h.s_ (mk:=.gU) hi aM hK eV (λ_ _ _ x=> .inl x) (λ_ _=>rfl) (λ_ _=>rfl) (λn=> .inr ⟨rfl,.inr ⟨rfl,Uv _⟩⟩) (λ_ _ x=>x.2.1) (λhs=>by subst fM;exact h.afY aH aM hK hs))
   ·cases bH
  |last n=>
   rw[hK]at eV;have aH:=pZ (by rw[hK];rfl) (λq=>by rw[hK];simp);have fM:i=ic:=h.rH hi (by rw[hK];rfl);exact .inl (h.s_ (mk:=.last) hi aM hK eV (λ_ _ _ x=>x) (λ_ _=>rfl) (λ_ _=>rfl) (λn=> .inr ⟨rfl,.inr ⟨rfl,Uv _⟩⟩) (λ_ _ x=>x.2.1) (λhs=>by subst fM;exact h.alz aH aM hK hs))
  |acq n=>
   rw[hK]at eV;have aH:=pZ (by rw[hK];rfl) (λq=>by rw[hK];simp);have fM:i=ic:=h.rH hi (by rw[hK];rfl);exact .inl (h.ab5 (mk:=.acq) hi aM hK (h.NC aH (n:=n) (.inl (by rw[<- fM];exact hK))) eV (λ_ _ _ x=>x) (λ_ _=>rfl) (λ_ _=>rfl) (λn=> .inr ⟨rfl,.inr ⟨rfl,Uv _⟩⟩) (λ_ _ x=>x.2.1) (λhs=>by subst fM;exact h.ad6 aH aM hK hs))
  |look n=>
   rw[hK]at eV;have aH:=pZ (by rw[hK];rfl) (λq=>by rw[hK];simp);have fM:i=ic:=h.rH hi (by rw[hK];rfl);exact .inl (h.s_ (mk:=.look) hi aM hK eV (λ_ _ _ x=>x) (λ_ _=>rfl) (λ_ _=>rfl) (λn=> .inr ⟨rfl,.inr ⟨rfl,Uv _⟩⟩) (λ_ _ x=>x.2.1) (λhs=>by subst fM;exact h.amf aH aM hK hs))
  |close n=>
   rw[hK]at eV;have aH:=pZ (by rw[hK];rfl) (λq=>by rw[hK];simp);have fM:i=ic:=h.rH hi (by rw[hK];rfl);exact .inl (h.s_ (mk:=.close) hi aM hK eV (λ_ _ _ x=>x) (λ_ _=>rfl) (λ_ _=>rfl) (λn=> .inr ⟨rfl,.inr ⟨rfl,Uv _⟩⟩) (λ_ _ x=>x.2.1) (λhs=>by subst fM;exact h.afQ aH aM hK hs))
theorem Inv.awake(h:Inv P n0 W0 V gs w t K Im ic ph st){g:SH}(oV:kj gs g\/∃p,ph=some p/\p.recv=true/\V.deaf=0/\nN gs g p.c):∀x∈gs,awake x:=by
 intro x hx;obtain⟨i,hi⟩:=YC.1 hx;rcases UX i with rfl|eO
 ·rcases oV with⟨g0,h0,h1,_⟩|⟨p,_,_,_,g0,z,h0,_⟩
  ·rw[hi]at h0;cases h0;intro s;rw[h1];simp
  ·rw[hi]at h0;cases h0;intro s;simp[parked]
 ·have de:=h.out.1 i x eO hi;intro s;cases ph with
  |none=>
   obtain⟨q,_,hq⟩:=de;rcases hq.status with e|e<;>rw[e]<;>simp
  |some p=>
   rcases GS.runs (show (K i).is P p.c p.Wg Im p.Ss (UR t i) x from de)with e|⟨e,_⟩|⟨j,h',V1,V2,g1,v,z,e⟩|⟨_,e,_⟩
   ·rw[e];simp
   ·rw[e];simp
   ·have eV:(K i).is P p.c p.Wg Im p.Ss (UR t i) x:=de;rw[e]at eV;obtain⟨_,_,rfl,_⟩:=eV;simp[parked]
   ·rw[e];simp
end
def Ok (P:SJ)(Post:SO->Tp->Prop)(m:apH)(t:Um):Prop:=
 ∃M last o w' t',runNT P (M+1) m t=(.ended o w',t')/\runN P M m=.next last/\step P last=.ended o w'/\WV P Post last o w' t'
section
variable {P:SJ}{Post:SO->Tp->Prop}
theorem Ok.step{m m':apH}{t:Um}{ops:Array V_}(hs:stepT P m=(.next m',ops))(h:Ok P Post m' (t++ops)):Ok P Post m t:=by
 obtain⟨M,last,o,w',t',h1,h2,h3,h4⟩:=h;refine⟨M+1,last,o,w',t',?_,?_,h3,h4⟩
 ·rw[runNT,hs];exact h1
 ·have:ab_ P m=.next m':=by unfold ab_;rw[hs]
  rw[runN,this];exact h2
theorem Ok.end{m:apH}{t:Um}{o:Outcome}{w':Tp}{ops:Array V_}(hs:stepT P m=(.ended o w',ops))(h:WV P Post m o w' (t++ops)):Ok P Post m t:=by
 refine⟨0,m,o,w',t++ops,?_,rfl,?_,h⟩
 ·simp[runNT,hs]
 ·unfold ab_;rw[hs]
end
section
variable {P:SJ}{n0:Nat}{W0:Tp}{V:View}{gs gs':Array SH}{w w':Tp}{sl:Option (Nat×Nat)}{t:Um}{K:Nat->GS}{Im:cq}{ic:Nat}{ph:Option Phase}{p:Phase}{st st':Option eg}
theorem Inv.draw(h:Inv P n0 W0 V gs w t K Im ic ph st)(d:Nat):Inv P n0 W0 V gs (w.at d) t K Im ic ph st:=
 let⟨a,b,c,e⟩:=h.out
 Inv.mk' h.pos h.k0 h.d0 a (b.draw d) c (by cases ph<;>exact e)
theorem MQ{f:Nat->Nat}:∀{N:Nat},0<sumTo N f->∃i,i<N/\0<f i
 |0,h=>by simp[sumTo]at h
 |N+1,h=>by
  by_cases hN:0<f N
  ·exact⟨N,by omega,hN⟩
  ·obtain⟨i,hi,hf⟩:=MQ (N:=N) (f:=f) (by rw[sumTo]at h;omega);exact⟨i,by omega,hf⟩
theorem Inv.apM(h:Inv P n0 W0 V gs w t K Im ic (some p) st)(aH:p.recv=true)(ho:ym w p.c)(sA:Calm gs):∃i gi,0<i/\gs[i]?=some gi/\gi.status=.running:=by
 obtain⟨s,hs,gg,iI,hm⟩:=h.mode aH;have h0:=h.k0;have Bl:gs[ic]?=some gs[ic]:=SK iI;have asG:(K ic).is P p.c p.Wg Im p.Ss (UR t ic) gs[ic]:=h.is ic _ gg Bl;have run:∀i x,0<i->gs[i]?=some x->(∀q,K i≠ .gone q)->(∀n,K i≠ .gU n)->x.status=.running:=by
  intro i x hi hx h1 h2;rcases GS.runs (show (K i).is P p.c p.Wg Im p.Ss (UR t i) x from h.is i x hi hx)with e|⟨_,q,e⟩|⟨j,h',V1,V2,g1,v,z,e⟩|⟨⟨n,e⟩,_⟩
  ·exact e
  ·exact absurd e (h1 q)
  ·have cx:=h.is i x hi hx;simp only[e,GS.is]at cx;obtain⟨_,_,iY,_⟩:=cx;have:=sA i x hi hx (by rw[iY];rfl);rw[iY]at this;cases this
  ·exact absurd e (h2 n)
 have K6:(∀q,K ic≠ .gone q)->(∀n,K ic≠ .gU n)->∃i gi,0<i/\gs[i]?=some gi/\gi.status=.running:=λa b=>⟨ic,_,gg,Bl,run ic _ gg Bl a b⟩;have other:∀i,i<gs.size->(K i).cnt=1\/(K i).late=1->∃i gi,0<i/\gs[i]?=some gi/\gi.status=.running:=by
  intro i hi hc;have eO:0<i:=by
   rcases UX i with rfl|x
   ·rw[h0]at hc;rcases hc with c|c<;>cases c
   ·exact x
  exact⟨i,_,eO,SK hi,run i _ eO (SK hi) (λq e=>by rw[e]at hc;rcases hc with c|c<;>cases c) (λq e=>by rw[e]at hc;rcases hc with c|c<;>cases c)⟩
 have one:∀i,0<(K i).cnt->(K i).cnt=1:=λi hi=>by cases e:K i<;>rw[e]at hi<;>first|rfl|exact absurd hi (by simp[GS.cnt])
 have ana:∀i,0<(K i).late->(K i).late=1:=λi hi=>by cases e:K i<;>rw[e]at hi<;>first|rfl|exact absurd hi (by simp[GS.late])
 unfold Mode at hm;rcases hm with m|m|m|m|m|m|m
 ·rcases m.2.2.2.2.2 with⟨k,e,_⟩|⟨v,e,_⟩<;>exact K6 (λq x=>by rw[x]at e;cases e) (λq x=>by rw[x]at e;cases e)
 ·obtain⟨i,hi,hc⟩:=MQ (N:=gs.size) (f:=λi=>(K i).cnt) (by have:=m.2.2.2.1;omega);exact other i hi (.inl (one i hc))
 ·obtain⟨i,hi,hc⟩:=MQ (N:=gs.size) (f:=λi=>(K i).late) (by have:=m.2.2.1;omega);exact other i hi (.inr (ana i hc))
 ·exact⟨ic,_,gg,Bl,m.2.2.2.2.2.1 _ Bl⟩
 ·rcases m.2.2.2.2.2 with e|e<;>exact K6 (λq x=>by rw[x]at e;cases e) (λq x=>by rw[x]at e;cases e)
 ·rcases m.2.2.2.2 with e|e<;>exact K6 (λq x=>by rw[x]at e;cases e) (λq x=>by rw[x]at e;cases e)
 ·obtain⟨⟨_,n,_,_,_,aX⟩,_⟩:=m;obtain⟨n',ho⟩:=ho;rw[aX]at ho;simp at ho
theorem rL(V':View)(Im:cq)(K:Nat->GS):bD V' Im K=upd (bD V Im K) 0 V':=by
 funext j;by_cases hj:j=0
 ·subst hj;rw[bu];simp[bD]
 ·rw[aZ _ _ hj];simp[bD,hj]
theorem kG:bD V Im K 0=V:=by simp[bD]
def uT (r:mS)(ph:Option Phase):Prop:=match r with
 |.plain=>ph=none
 |.fork c Wg Ss=>ph=some ⟨c,Wg,Ss,false⟩
 |.recv c Wg Ss=>ph=some ⟨c,Wg,Ss,true⟩
 |.work .. =>False
theorem Inv.amo(h:Inv P n0 W0 V gs w t K Im ic ph st){V':View}(g:dT V V')(hr:uT V.role ph):Inv P n0 W0 V' gs w t K Im ic ph st:=by
 obtain⟨de,hc,mG,gD⟩:=h.out;refine Inv.mk' h.pos h.k0 (by rw[g.deaf];exact h.d0) de ?_ mG ?_
 ·rw[rL (V:=V)];exact hc.ghost h.pos (by rw[kG];exact g)
 ·cases ph with
  |none=>exact gD
  |some p=>
   obtain⟨a1,a2,a3,a4,a5,a6,a7,a8,a9,bQ⟩:=gD;refine⟨a1,a2,a3,a4,a5,a6,a7,a8,a9,?_⟩;split
   ·rename_i aH;rw[if_pos aH]at bQ;have b:jh p V:=⟨bQ.1.1,bQ.1.2.1,bQ.1.2.2.1,bQ.1.2.2.2⟩;have b':=b.ghost g;exact⟨⟨b'.1,b'.2.1,b'.2.2.1,b'.2.2.2⟩,bQ.2⟩
   ·rename_i aH;rw[if_neg aH]at bQ;refine⟨g.chan _ _ ?_ bQ.1,bQ.2⟩;unfold uT at hr;split at hr
    ·cases hr
    ·cases hr;rename_i e;rw[e];rfl
    ·cases hr;exact absurd rfl aH
    ·exact hr.elim
theorem Inv.aau(h:Inv P n0 W0 V gs w t K Im ic ph st){g0 g':SH}{es:Array Uq}{V':View}(h0:gs[0]?=some g0)(s:da V w V' w' es)(hr:uT V.role ph):
  Inv P n0 W0 V' ((gs.map (woken P g0 g' w')).setIfInBounds 0 g') w' (t++Ta 0 g0.frame.fn g0.frame.place es) K Im ic ph st:=by
 obtain⟨de,hc,mG,gD⟩:=h.out;have aV:((gs.map (woken P g0 g' w')).setIfInBounds 0 g').size=gs.size:=by simp
 have Cg:∀op∈Ta 0 g0.frame.fn g0.frame.place es,op.g=0:=λop au=>by obtain⟨e,_,rfl⟩:=TM au;rfl
 have gX:∀{u:Um}{idx:Nat}{op:V_},(t++u)[idx]?=some op->op.g=0->Wi (t++u) 0 idx:=λ{u idx op} a b=>by have:=Y' a;rwa [b]at this
 have Qu:∀p,ph=some p->w'.heap[p.c]?=w.heap[p.c]?:=by
  rintro p rfl
  obtain⟨a1,a2,a3,a4,a5,a6,a7,a8,a9,bQ⟩:=gD;by_cases aH:p.recv=true
  ·rw[if_pos aH]at bQ;exact s.frame _ a4 bQ.1.1
  ·rw[if_neg aH]at bQ;have dw:Sat V w:=(by have:=hc.sat 0 h.pos;rwa [kG]at this);have eS:V.role.chan=some p.c:=by
    unfold uT at hr;split at hr
    ·cases hr
    ·cases hr;rename_i e;rw[e];rfl
    ·cases hr;exact absurd rfl aH
    ·exact hr.elim
   rw[s.sat.own _ _ (s.chan _ _ eS bQ.1),dw.own _ _ bQ.1]
 refine Inv.mk' (by rw[aV];exact h.pos) h.k0 (by rw[Deaf_own,s.deaf,h.d0]) (λj x hj hx=> ?_) ?_ ?_ ?_
 ·rcases getElem?_next h.pos hx with⟨e,_⟩|⟨_,y,hy,rfl⟩
  ·omega
  ·rw[ate t (g:=j) (g':=0) (by omega) _ Cg];have Cn:=de j y hj hy;have J_:j<gs.size:=(SR.1 hy).1;cases ph with
   |none=>
    obtain⟨q,hq,o5⟩:=Cn;exact⟨q,hq,by rw[woken_quitsD o5];exact o5⟩
   |some p=>
    refine Si ?_ Cn;rcases h.opens rfl with⟨n,x⟩|x
    ·exact .inl ⟨n,by rw[Qu p rfl];exact x⟩
    ·exact .inr (x.1 j hj J_)
 ·rw[aV,rL (V:=V)];refine hc.step h.pos (by rw[kG];exact s) (λe he x hx hs=> ?_) g0.frame.fn g0.frame.place;cases ph with
  |none=>exact hs.elim
  |some p=>
   obtain⟨a1,a2,a3,a4,a5,a6,a7,a8,a9,bQ⟩:=gD;have pL:=IB (s.e9 e he) hx;by_cases aH:p.recv=true
   ·exfalso;rw[if_pos aH]at bQ;have b:jh p V:=⟨bQ.1.1,bQ.1.2.1,bQ.1.2.2.1,bQ.1.2.2.2⟩;rcases pL.1 with y|⟨y,_⟩|y
    ·exact b.zJ y.rd hs
    ·exact b.zJ y hs
    ·exact y (abZ a4 a5 hs)
   ·rw[if_neg aH]at bQ;have iZ:V.role.chan=some p.c/\V.role.group=some p.Wg:=by
     unfold uT at hr;split at hr
     ·cases hr
     ·cases hr;rename_i e;rw[e];exact⟨rfl,rfl⟩
     ·cases hr;exact absurd rfl aH
     ·exact hr.elim
    have jZ:mW (some p) gs.size ic K 0:=by
     show iR p gs.size ic K 0;unfold iR;rw[if_neg aH];exact .inl rfl
    have B8:x.kind≠ .plain:=by
     intro hk;cases hl:x.loc with
     |cell a=>rw[hl]at hs;exact pL.2.2 _ a iZ.2 hl hs hk
     |obj r=>rw[hl]at hs;exact pL.2.1 _ iZ.1 (by rw[hl];exact congrArg _ hs)
     |_=>rw[hl]at hs;exact hs.elim
    cases hk:x.kind with
    |plain=>exact absurd hk B8
    |atomic=>exact .inl ⟨rfl,jZ⟩
    |said=>exact .inr ⟨rfl,bQ.2.1.symm,jZ⟩
 ·have vO:∀idx a,t.size<=idx->(∃op∈Ta 0 g0.frame.fn g0.frame.place es,(t++Ta 0 g0.frame.fn g0.frame.place es)[idx]?=some op/\op.act.touch?=some a)->Wi (t++Ta 0 g0.frame.fn g0.frame.place es) 0 idx:=λidx a _ ⟨op,au,hi,_⟩=>gX hi (Cg op au);cases st with
  |none=>
   intro idx a ha hm;rcases Af ha with f_|⟨hi,x⟩
   ·obtain⟨op,au,_⟩:=US f_;rcases mG idx a f_ hm with x|⟨x,y⟩|⟨_,z,_⟩
    ·exact .inl (x.app _)
    ·exact .inr (.inl ⟨x,λz=>y ((Wo (TH au)).1 z)⟩)
    ·cases z
   ·exact .inl (vO idx a hi x)
  |some s'=>
   exact mG.app (λidx a ha hx=> .inr (hx.app (by obtain⟨op,au,_⟩:=US ha;exact TH au) λj _ _ hj=> .inl hj)) (λidx a hi x _=> .inl (vO idx a hi x))
 ·cases ph with
  |none=>exact gD
  |some p=>
   obtain⟨a1,a2,a3,a4,a5,a6,a7,a8,a9,bQ⟩:=gD;refine⟨a1,a2,a3,Td a4 s.size,Td a5 s.size,a6,a7,λj j' m b1 b2 b3 b4=>a8 j j' m b1 (aV▸b2) b3 (aV▸b4),λj S b1 b2=>by rw[aV];exact a9 j S b1 b2,?_⟩;split
   ·rename_i aH;rw[if_pos aH]at bQ;obtain⟨c1,c2,c3,s',c4,c5⟩:=bQ;have b:jh p V:=⟨c1.1,c1.2.1,c1.2.2.1,c1.2.2.2⟩;have b':=b.step s a4 a5;refine⟨⟨b'.1,b'.2.1,b'.2.2.1,b'.2.2.2⟩,c2,by rw[aV];exact c3,s',c4,?_⟩;rw[aV];refine c5.keep (λ_=>rfl) (Qu p rfl) (s.frame _ a5 b.2.2.1) λrc g hg=> ?_;rcases getElem?_next h.pos hg with⟨e,_⟩|⟨_,y,hy,rfl⟩
    ·omega
    ·rw[Yj (rc y hy)];exact rc y hy
   ·rename_i aH;rw[if_neg aH]at bQ;have eS:V.role.chan=some p.c:=by
     unfold uT at hr;split at hr
     ·cases hr
     ·cases hr;rename_i e;rw[e];rfl
     ·cases hr;exact absurd rfl aH
     ·exact hr.elim
    exact⟨s.chan _ _ eS bQ.1,bQ.2.1,bQ.2.2.1,by rw[aV];exact bQ.2.2.2.1,bQ.2.2.2.2.1,by rw[aV];exact bQ.2.2.2.2.2⟩
end
theorem acN{x y:V_}{k:Nat}(hx:x.act=.go k)(hy:y.act=.start):∀op∈(#[x,y]:Um),op.act.touch?=none/\still op.act/\(∀B,op.act.low B)/\∀a,op.act≠ .mark (.release a):=by
 intro op au;simp only[TK,SL,S4,or_false]at au;rcases au with rfl|rfl
 ·rw[hx];exact⟨rfl,⟨by simp,by simp⟩,λ_=>trivial,by simp⟩
 ·rw[hy];exact⟨rfl,⟨by simp,by simp⟩,λ_=>trivial,by simp⟩
theorem Oz{t:Um}{N:Nat}(h:∀op∈t,op.g<N):UR t N=0:=by
 have key:∀k,k<=t.size->t.deaf N k=0:=by
  intro k;induction k with
  |zero=>intro _;rfl
  |succ k ih=>
   intro hk;have hy:t[k]?=some t[k]:=SK (by omega);have aG:¬t[k].g=N:=(by have:=h t[k] (XS _);omega);rw[Z9 hy,ih (by omega)];unfold deafStep;split<;>simp[aG]
 exact key _ (SP _)
section
variable {VV:Nat->View}{N:Nat}{w:Tp}{t:Um}{Sh:Loc->Prop}{act act':Nat->Prop}{ic kA n0:Nat}{W0:Tp}
theorem Core.spawn(h:Core VV N w t Sh act ic n0 W0)(h0:0<N)(aQ:UR t 0=0){x y:V_}(hx:x.g=0/\x.act=.go N)(hy:y.g=N/\y.act=.start){U:View}(hi:U.ab=(VV 0).ab)(ho:U.own=λ_=>none)
  (jZ:∀i,act' i->act i\/(i=N/\act 0)) (fM:kA=ic\/(kA=N/\ic=0)):Core (upd VV N U) (N+1) w (t++#[x,y]) Sh act' kA n0 W0:=by
 have jw:=acN hx.2 hy.2;have hdN:UR t N=0:=Oz h.ti.gs;have hk:∀{idx},Wi t 0 idx->Wi (t++#[x,y]) N idx:=λ{idx} jy=>fork_knows hx hy aQ hdN jy;have hsU:Sat U w:=⟨λb o v e=>(h.sat 0 h0).ab b o v (by rw[<- hi];exact e),λb x e=>by rw[ho]at e;cases e⟩;refine⟨λi cx=> ?_,λa b ha hb fK=> ?_,?_,h.tape,h.os,h.out,h.old,λi cx b hb=> ?_,h.n0⟩
 ·by_cases fj:i=N
  ·subst fj;rw[bu];exact hsU
  ·rw[aZ _ _ fj];exact h.sat i (by omega)
 ·by_cases Qh:a=N
  ·subst Qh;rw[bu];intro q hq;rw[ho]at hq;exact absurd rfl hq
  ·rw[aZ _ _ Qh];by_cases Qo:b=N
   ·subst Qo;rw[bu];intro q hq;refine⟨by rw[ho],λo hu=> ?_⟩;rw[hi]at hu;by_cases yT:a=0
    ·subst yT;exact hu
    ·exact(h.dK a 0 (by omega) h0 yT q hq).2 o hu
   ·rw[aZ _ _ Qo];exact h.dK a b (by omega) (by omega) fK
 ·refine h.ti.mute (λop au=>(jw op au).1) (λop au=>(jw op au).2.2.1 _) (λop au=> ?_) (by omega) (λop au=>(jw op au).2.2.2) (λi cx l hl idx a ha gB rk=> ?_) (λi cx l hl idx a ha gB=> ?_) (λidx a ha dG=>⟨λhp i cx=> ?_,λhp=> ?_⟩)
  ·simp only[TK,SL,S4,or_false]at au;rcases au with rfl|rfl
   ·omega
   ·omega
  ·obtain⟨_,cR,nm⟩:=hl;by_cases fj:i=N
   ·subst fj;rw[bu]at cR;have:gH (VV 0) l:=by
     cases l with
     |cell a'=>rcases cR with z|z;exact absurd (by rw[ho]) z;exact .inr (by rw[<- hi];exact z)
     |obj r=>exact absurd (by rw[ho]) cR
     |_=>exact cR.elim
    exact hk (h.ti.kr 0 h0 l ⟨h0,this,nm⟩ idx a ha gB rk)
   ·rw[aZ _ _ fj]at cR;exact(h.ti.kr i (by omega) l ⟨by omega,cR,nm⟩ idx a ha gB rk).app _
  ·obtain⟨_,cR,nm⟩:=hl;by_cases fj:i=N
   ·subst fj;rw[bu]at cR;exfalso;cases l with
    |cell a'=>exact cR.1 (by rw[ho])
    |obj r=>exact cR (by rw[ho])
    |_=>exact cR.elim
   ·rw[aZ _ _ fj]at cR;exact(h.ti.kw i (by omega) l ⟨by omega,cR,nm⟩ idx a ha gB).app _
  ·have:=h.ti.sp idx a ha dG;rcases jZ i cx with z|⟨rfl,z⟩
   ·exact(this.1 hp i z).app _
   ·exact hk (this.1 hp 0 z)
  ·have:=h.ti.sp idx a ha dG;rcases fM with rfl|⟨rfl,rfl⟩
   ·exact(this.2 hp).app _
   ·exact hk (this.2 hp)
 ·by_cases fj:i=N
  ·subst fj;rw[bu,ho]
  ·rw[aZ _ _ fj];exact h.jc i (by omega) b hb
end
section
variable {P:SJ}{n0:Nat}{W0:Tp}{V:View}{gs gs':Array SH}{w w':Tp}{sl:Option (Nat×Nat)}{t:Um}{K:Nat->GS}{Im:cq}{ic:Nat}{ph:Option Phase}{p:Phase}{st st':Option eg}
theorem GS.acX{k:GS}(h:k.m9=false)(Im kI:cq):k.view kI=k.view Im:=by cases k<;>first|rfl|cases h
theorem GS.ak9{k:GS}{c Wg d:Nat}{Im kI:cq}{Ss Nw:List (List Spec)}{g:SH}(h:k.m9=false)(hS:∀(j:Nat) S,Ss[j]?=some S->Nw[j]?=some S)(hk:k.is P c Wg Im Ss d g):k.is P c Wg kI Nw d g:=by
 cases k with
 |work j hh V=>obtain⟨a,b,S,e,f⟩:=hk;exact⟨a,b,S,hS _ _ e,f⟩
 |nI j hh V V' g0 v z=>obtain⟨a,b,c,d,sp,S,B,e,f⟩:=hk;exact⟨a,b,c,d,sp,S,B,hS _ _ e,f⟩
 |gone q=>exact hk
 |add n=>exact hk
 |load n=>exact hk
 |store n=>exact hk
 |mh n=>exact hk
 |head k n=>cases h
 |lW k n=>cases h
 |said n=>cases h
 |gU n=>cases h
 |last n=>cases h
 |acq n=>cases h
 |look n=>cases h
 |close n=>cases h
theorem Inv.spawn(h:Inv P n0 W0 V gs w t K Im ic (some p) st)(aH:p.recv=false)(iD:V.deaf=0){g' child:SH}{x y:V_}(hx:x.g=0/\x.act=.go gs.size)(hy:y.g=gs.size/\y.act=.start){V':View}{p':Phase}{kI:cq}{kA:Nat}{k':GS}(hc:p'.c=p.c)(yR:p'.Wg=p.Wg)
  (pS:mq V' V) (t_:V'.deaf=V.deaf) (qa:(k'.view kI).ab=V.ab) (hvo:(k'.view kI).own=λ_=>none) (hSs:∀(j:Nat) S,p.Ss[j]?=some S->p'.Ss[j]?=some S) (BJ:k'.is P p.c p.Wg kI p'.Ss 0 child)
  (jZ:∀i,i<gs.size->iR p' (gs.size+1) kA (upd K gs.size k') i->iR p gs.size ic K i) (fM:kA=ic\/kA=gs.size)
  (B9:yn P n0 V' ((gs.setIfInBounds 0 g').push child) w (t++#[x,y]) (upd K gs.size k') kI kA (some p') (some .early)):
  Inv P n0 W0 V' ((gs.setIfInBounds 0 g').push child) w (t++#[x,y]) (upd K gs.size k') kI kA (some p') (some .early):=by
 obtain⟨de,gL,mG,gD⟩:=h.out;obtain⟨a1,a2,a3,a4,a5,a6,a7,a8,a9,bQ⟩:=gD;rw[if_neg (by rw[aH];simp)]at bQ;obtain⟨c1,c2,c3,c4,c5,c6⟩:=bQ;have aV:((gs.setIfInBounds 0 g').push child).size=gs.size+1:=by simp
 have jw:=acN hx.2 hy.2;have bw:∀i,UR (t++#[x,y]) i=UR t i:=λi=>Deaf_still λop au=>(jw op au).2.1;have B_:=h.pos;have aQ:UR t 0=0:=by rw[h.d0,iD]
 have aX:∀i,0<i->(K i).m9=false:=λi hi=>by
  cases e:(K i).m9 with
  |false=>rfl
  |true=>have:=h.rH hi e;omega
 have ai3:mW (some p) gs.size ic K 0:=by
  show iR p gs.size ic K 0;unfold iR;rw[if_neg (by rw[aH];simp)];exact .inl rfl
 have xk:=gL.spawn (act':=mW (some p') (gs.size+1) kA (upd K gs.size k')) (kA:=kA) B_ aQ hx hy (U:=k'.view kI) (by rw[kG];exact qa) hvo (λi hi=>by
   by_cases fj:i<gs.size
   ·exact .inl (jZ i fj hi)
   ·refine .inr ⟨?_,ai3⟩;have cx:iR p' (gs.size+1) kA (upd K gs.size k') i:=hi;unfold iR at cx;split at cx<;>omega) (fM.imp id λe=>⟨e,c2⟩)
 have ajt:=(xk.less (i:=0) (V':=V') (by omega) (by rw[aZ _ _ (by omega),kG];exact pS)).congr (DM:=bD V' kI (upd K gs.size k')) λi hi=>by
  by_cases eO:i=0
  ·subst eO;rw[bu];simp[bD]
  ·rw[aZ _ _ eO];by_cases fj:i=gs.size
   ·subst fj;rw[bu];simp[bD,eO,bu]
   ·rw[aZ _ _ fj];simp only[bD,eO,if_false,aZ _ _ fj];exact GS.acX (aX i (by omega)) _ _
 refine Inv.mk' (by omega) (by rw[aZ _ _ (by omega)];exact h.k0) (by rw[bw,t_];exact h.d0) (λi z hi hz=> ?_) ?_ ?_ B9
 ·rw[bw];show (upd K gs.size k' i).is P p'.c p'.Wg kI p'.Ss _ z;rw[hc,yR];by_cases fj:i=gs.size
  ·subst fj;rw[bu,Oz gL.ti.gs];have:z=child:=by
    rw[show gs.size=(gs.setIfInBounds 0 g').size by simp]at hz;rw[Array.getElem?_push_size]at hz;exact(Wj hz).symm
   rw[this];exact BJ
  ·have asE:i<gs.size:=(by have:=(SR.1 hz).1;omega);rw[aZ _ _ fj];rw[Xg,if_neg (by simp;omega),SU (by omega)]at hz;exact GS.ak9 (aX i hi) hSs (de i z hi hz)
 ·rw[aV];have e:rF (some p')=rF (some p):=by show qA p'.c p'.Wg=qA p.c p.Wg;rw[hc,yR]
  rw[e];exact ajt
 ·have hr:Rest p.Wg t K ic st:=mG;rw[c3]at hr;show Rest p'.Wg _ _ _ _;rw[yR];intro idx a ha hm;have f_:=Ag (λop au=>(jw op au).1) ha;obtain⟨op,au,_⟩:=US f_;have hlt:=TH au;rcases hr idx a f_ hm with z|⟨z1,z2⟩|⟨s,hs,jy⟩
  ·exact .inl (z.app _)
  ·exact .inr (.inl ⟨z1,λz=>z2 ((Wo hlt).1 z)⟩)
  ·cases hs;obtain⟨i,hg,hi,hz⟩:=jy;have fj:i<gs.size:=by
    obtain⟨op',ba,oX⟩:=Tq.1 hg;rw[<- oX];exact gL.ti.gs op' (XQ ba)
   refine .inr (.inr ⟨.early,rfl,i,by rw[g?_old hlt];exact hg,hi,?_⟩);rcases hz with hz|hz|⟨r,hz,hle⟩
   ·exact .inl (by rw[aZ _ _ (by omega)];exact hz)
   ·omega
   ·exact .inr (.inr ⟨r,hz.app,hle⟩)
theorem Sat.K9{c:Nat}{a:Nat}{x:Bool}{y z:Nat}{u:Bool}{D7:Array SO}(h:Sat V w)(hc:w.heap[c]?=some (.chan a D7 x y z u))(o:Nat):V.ab c o=none:=by
 cases e:V.ab c o with
 |none=>rfl
 |some v=>have:=h.ab c o v e;simp[Ux,hc]at this
theorem Inv.aaG(h:Inv P n0 W0 V gs w t K Im ic (some p) st)(aH:p.recv=false){i:Nat}(hi:0<i):(K i).m9=false:=by
 have hx:=h.phase.2.2.2.2.2.2.2.2.2;rw[if_neg (by rw[aH];simp)]at hx;cases e:(K i).m9 with
 |false=>rfl
 |true=>have:=h.rH hi e;have:=hx.2.1;omega
theorem Inv.Ep(h:Inv P n0 W0 V gs w t K Im ic (some p) st)(aH:p.recv=false)(iD:V.deaf=0){g' child:SH}{x y:V_}(hx:x.g=0/\x.act=.go gs.size)(hy:y.g=gs.size/\y.act=.start){hh:Ht}{sp:Spec}{S:List Spec}(hlen:p.Ss.length<4)(nZ:∀o,V.ab p.Wg o=none)
  (BJ:lq P hh {ab:=V.ab,own:=λ_=>none,deaf:=0,role:=.work p.c p.Wg (sp::S)} child):
  Inv P n0 W0 {V with role:=.fork p.c p.Wg (p.Ss++[sp::S])} ((gs.setIfInBounds 0 g').push child) w (t++#[x,y]) (upd K gs.size (.work p.Ss.length hh {ab:=V.ab,own:=λ_=>none,deaf:=0,role:=.work p.c p.Wg (sp::S)})) Im ic
   (some {p with Ss:=p.Ss++[sp::S]}) (some .early):=by
 obtain⟨de,gL,mG,gD⟩:=h.out;obtain⟨a1,a2,a3,a4,a5,a6,a7,a8,a9,bQ⟩:=gD;rw[if_neg (by rw[aH];simp)]at bQ;obtain⟨c1,c2,c3,c4,c5,c6⟩:=bQ;have aV:((gs.setIfInBounds 0 g').push child).size=gs.size+1:=by simp
 have dw:Sat V w:=by have:=gL.sat 0 h.pos;rwa [kG]at this
 have yZ:=dw.K9 (dw.own _ _ c1);have cW:∀i j,0<i->i<gs.size->(K i).idx=some j->j<p.Ss.length:=λi j hi hlt e=>by
  have QO:=de i _ hi (SK hlt);have J5:(K i).is P p.c p.Wg Im p.Ss (UR t i) gs[i]:=QO;cases kQ:K i<;>rw[kQ]at e J5<;>simp[GS.idx]at e
  ·subst e;obtain⟨_,_,S,e,_⟩:=J5;exact(SM.1 e).1
  ·subst e;obtain⟨_,_,_,_,_,_,_,e,_⟩:=J5;exact(SM.1 e).1
 refine h.spawn aH iD hx hy rfl rfl ⟨λ_=> .inr rfl,λ_ _=> .inr rfl,λ_ _ _=>rfl⟩ rfl rfl rfl (λj S' e=> ?_) ⟨rfl,BJ,sp::S,by simp,rfl⟩ (λi hi jZ=> ?_) (.inl rfl) ?_
 ·show (p.Ss++[sp::S])[j]?=some S';rw[SZ (SM.1 e).1];exact e
 ·unfold iR at jZ⊢;rw[if_neg (by show ¬p.recv=true;rw[aH];simp)]at jZ;rw[if_neg (by rw[aH];simp)];rw[aZ _ _ (by omega)]at jZ;exact jZ.imp id λz=>⟨hi,z.2⟩
 ·refine⟨a1,a2,a3,a4,a5,by simp only[SQ,Ul,UQ];omega,λi hi=> ?_,λi i' j b1 b2 b3 b4 b5 b6=> ?_,λj S' b1 b2=> ?_,?_⟩
  ·by_cases fj:i=gs.size
   ·subst fj;rw[bu];exact⟨rfl,yZ,rfl,nZ,λe=>by cases e⟩
   ·rw[aZ _ _ fj];exact a7 i hi
  ·rw[aV]at b2 b4;by_cases e1:i=gs.size
   ·by_cases e2:i'=gs.size
    ·omega
    ·rw[aZ _ _ e2]at b6;have:=cW i' j b3 (by omega) b6;subst e1;rw[bu]at b5;simp only[GS.idx,Tl]at b5;omega
   ·rw[aZ _ _ e1]at b5;by_cases e2:i'=gs.size
    ·have:=cW i j b1 (by omega) b5;subst e2;rw[bu]at b6;simp only[GS.idx,Tl]at b6;omega
    ·rw[aZ _ _ e2]at b6;exact a8 i i' j b1 (by omega) b3 (by omega) b5 b6
  ·rw[aV];by_cases hj:j<p.Ss.length
   ·have:p.Ss[j]?=some S':=by
     have HV:(p.Ss++[sp::S])[j]?=some S':=b1;rwa [SZ hj]at HV
    obtain⟨i,e1,e2,e3⟩:=a9 j S' this b2;exact⟨i,e1,by omega,by rw[aZ _ _ (by omega)];exact e3⟩
   ·have ii:j=p.Ss.length:=by
     have:=(SM.1 (show (p.Ss++[sp::S])[j]?=some S' from b1)).1;simp at this;omega
    exact⟨gs.size,h.pos,by omega,by rw[bu,ii];rfl⟩
  ·show if p.recv=true then _ else _;rw[if_neg (by rw[aH];simp)];refine⟨c1,c2,rfl,λi b1 b2=> ?_,λS' hS'=> ?_,?_⟩
   ·rw[aV]at b2;by_cases fj:i=gs.size
    ·subst fj;rw[bu];exact .inl rfl
    ·rw[aZ _ _ fj];exact c4 i b1 (by omega)
   ·rcases SS.1 hS' with z|z
    ·exact c5 S' z
    ·simp at z;subst z;simp
   ·rw[aV,sumTo,bu,SQ,<- c6];rw[Vj (g:=λi=>(K i).cnt) λi hi=>by rw[aZ _ _ (by omega)]];rfl
theorem Inv.Eo(h:Inv P n0 W0 V gs w t K Im ic (some p) st)(aH:p.recv=false)(iD:V.deaf=0){g' child:SH}{x y:V_}(hx:x.g=0/\x.act=.go gs.size)(hy:y.g=gs.size/\y.act=.start){n:Nat}
  (yR:V.own p.Wg=some (wgBlock P (((p.Ss.length:Nat):Int)* KK) 0)) (nZ:∀o,V.ab p.Wg o=none) (BJ:cP P (ez P V.ab p.c p.Wg 5) n 0 child):
  Inv P n0 W0 {V with own:=λb=>if b=p.c\/b=p.Wg then none else V.own b,role:=.recv p.c p.Wg p.Ss} ((gs.setIfInBounds 0 g').push child) w (t++#[x,y]) (upd K gs.size (.head 5 n)) V.ab gs.size (some {p with recv:=true}) (some .early):=by
 obtain⟨de,gL,mG,gD⟩:=h.out;obtain⟨a1,a2,a3,a4,a5,a6,a7,a8,a9,bQ⟩:=gD;rw[if_neg (by rw[aH];simp)]at bQ;obtain⟨c1,c2,c3,c4,c5,c6⟩:=bQ;have aV:((gs.setIfInBounds 0 g').push child).size=gs.size+1:=by simp
 have dw:Sat V w:=by have:=gL.sat 0 h.pos;rwa [kG]at this
 have yZ:=dw.K9 (dw.own _ _ c1);have B_:=h.pos;refine h.spawn aH iD hx hy rfl rfl ⟨λb=> ?_,λ_ _=> .inr rfl,λ_ _ _=>rfl⟩ rfl rfl rfl (λj S' e=>e) BJ (λi hi jZ=> ?_) (.inr rfl) ?_
 ·by_cases e:b=p.c\/b=p.Wg
  ·exact .inl (by simp only[e,if_true])
  ·exact .inr (by simp only[e,if_false])
 ·unfold iR at jZ⊢;rw[if_pos rfl]at jZ;rw[if_neg (by rw[aH];simp)];rw[aZ _ _ (by omega)]at jZ;obtain⟨z1,_,z2⟩:=jZ;rcases c4 i z1 hi with z|⟨q,z⟩
  ·exact .inr ⟨hi,z⟩
  ·exfalso;rw[z]at z2;rcases z2 with z2|z2|z2|z2
   ·cases z2
   ·omega
   ·cases z2
   ·cases z2
 ·refine⟨a1,a2,a3,a4,a5,a6,λi hi=> ?_,λi i' j b1 b2 b3 b4 b5 b6=> ?_,λj S' b1 b2=> ?_,?_⟩
  ·by_cases fj:i=gs.size
   ·subst fj;rw[bu];exact⟨rfl,yZ,rfl,nZ,λ_=>rfl⟩
   ·rw[aZ _ _ fj,GS.acX (h.aaG aH hi) Im];have:=a7 i hi;exact⟨this.1,this.2.1,this.2.2.1,this.2.2.2.1,λe=>by rw[h.aaG aH hi]at e;cases e⟩
  ·rw[aV]at b2 b4;by_cases e1:i=gs.size
   ·subst e1;rw[bu]at b5;cases b5
   ·by_cases e2:i'=gs.size
    ·subst e2;rw[bu]at b6;cases b6
    ·rw[aZ _ _ e1]at b5;rw[aZ _ _ e2]at b6;exact a8 i i' j b1 (by omega) b3 (by omega) b5 b6
  ·obtain⟨i,e1,e2,e3⟩:=a9 j S' b1 b2;exact⟨i,e1,by omega,by rw[aZ _ _ (by omega)];exact e3⟩
  ·show if true=true then _ else _;rw[if_pos rfl];refine⟨⟨by simp,yZ,by simp,nZ⟩,by omega,by rw[aV];omega,.early,rfl,?_⟩;rw[aV];have e1:sumTo (gs.size+1) (λi=>(upd K gs.size (.head 5 n) i).cnt)=p.Ss.length:=by
    rw[sumTo,bu,<- c6];rw[Vj (g:=λi=>(K i).cnt) λi hi=>by rw[aZ _ _ (by omega)]];rfl
   have e2:sumTo (gs.size+1) (λi=>(upd K gs.size (.head 5 n) i).late)=0:=by
    have hz:∀N,sumTo N (λ_=>0)=0:=λN=>(by induction N with|zero=>rfl|succ N ih=>simp[sumTo,ih]);rw[sumTo,bu];rw[Vj (g:=λ_=>0) λi hi=> ?_,hz]
    ·rfl
    ·rw[aZ _ _ (by omega)];rcases UX i with rfl|eO
     ·rw[h.k0];rfl
     ·rcases c4 i eO hi with z|⟨q,z⟩
      ·cases kQ:K i<;>rw[kQ]at z<;>first|rfl|cases z
      ·rw[z];rfl
   unfold Mode;simp only[e1,e2,bu];exact .inl ⟨⟨0,dw.own _ _ c1⟩,trivial,trivial,a6,dw.own _ _ yR,.inl ⟨5,rfl,by omega⟩⟩
theorem Inv.begin(h:Inv P n0 W0 V gs w t K Im ic none st){c Wg:Nat}(aG:c≠Wg)(hc:V.own c=some (.chan 0 #[] false 0 0 false)) (hW:V.own Wg≠none) (nZ:∀o,V.ab Wg o=none):
  Inv P n0 W0 {V with role:=.fork c Wg []} gs w t (λi=>if i<gs.size then K i else .gone 0) Im 0 (some ⟨c,Wg,[],false⟩) (some .early):=by
 obtain⟨de,gL,mG,gD⟩:=h.out;have dw:Sat V w:=by have:=gL.sat 0 h.pos;rwa [kG]at this
 have yZ:=dw.K9 (dw.own _ _ hc);have sE:∀i,(∃q,(if i<gs.size then K i else .gone 0)=GS.gone q):=λi=>by
  by_cases hi:i<gs.size
  ·rw[if_pos hi];rcases UX i with rfl|eO
   ·exact⟨0,h.k0⟩
   ·obtain⟨q,hq,_⟩:=de i _ eO (SK hi);exact⟨q,hq⟩
  ·rw[if_neg hi];exact⟨0,rfl⟩
 have gW:∀{b x},V.own b=some x->n0<=b/\b<w.heap.size:=λ{b x} e=>by
  refine⟨?_,dw.lt e⟩;apply Nat.le_of_not_lt;intro hb;have:=gL.jc 0 h.pos b hb;rw[kG,e]at this;cases this
 obtain⟨xW,R3⟩:∃x,V.own Wg=some x:=by cases e:V.own Wg with|none=>exact absurd e hW|some x=>exact⟨x,rfl⟩
 have l8:∀i,0<i->((if i<gs.size then K i else .gone 0).view Im)=noView:=λi _=>by obtain⟨q,e⟩:=sE i;rw[e];rfl
 refine Inv.mk' h.pos (by rw[if_pos h.pos];exact h.k0) h.d0 (λi x hi hx=> ?_) ?_ ?_ ?_
 ·have hlt:i<gs.size:=(SR.1 hx).1;obtain⟨q,hq,hy⟩:=de i x hi hx;show (if i<gs.size then K i else .gone 0).is P c Wg Im [] _ x;rw[if_pos hlt,hq];exact hy
 ·have bh:Core (bD {V with role:=.fork c Wg []} Im (λi=>if i<gs.size then K i else .gone 0)) gs.size w t (rF none) (mW none gs.size ic K) ic n0 W0:=by
   refine(gL.role (i:=0) (V':={V with role:=.fork c Wg []}) h.pos (by rw[kG]) (by rw[kG])).congr λi hi=> ?_;by_cases eO:i=0
   ·subst eO;rw[bu];simp[bD]
   ·rw[aZ _ _ eO];simp[bD,eO,hi]
  refine⟨bh.sat,bh.dK,?_,bh.tape,bh.os,bh.out,bh.old,bh.jc,bh.n0⟩;refine bh.ti.weaken (SP _) (λi l _ x=> .inl ⟨x.1,x.2.1,λz=>z.elim⟩) (λi l _ x=>⟨x.1,x.2.1,λz=>z.elim⟩) (λidx a ha dG=> ?_);have hk:Wi t 0 idx:=by
   have xH:jH V a.loc:=by
    have zr:qA c Wg a.loc:=dG;cases hl:a.loc with
    |cell ad=>rw[hl]at zr;have e:ad.block=Wg:=zr;exact⟨by rw[e];exact hW,by rw[e];exact nZ _⟩
    |obj r=>rw[hl]at zr;have e:r=c:=zr;show V.own r≠none;rw[e,hc];simp
    |_=>rw[hl]at zr;exact zr.elim
   exact gL.ti.kw 0 h.pos a.loc ⟨h.pos,by rw[kG];exact xH,λz=>z.elim⟩ idx a ha rfl
  refine⟨λ_ i hi=> ?_,λ_=>hk⟩;have cx:iR ⟨c,Wg,[],false⟩ gs.size 0 (λi=>if i<gs.size then K i else .gone 0) i:=hi;unfold iR at cx;rw[if_neg (by simp)]at cx;rcases cx with rfl|⟨_,e⟩
  ·exact hk
  ·obtain⟨q,eq⟩:=sE i;simp only[eq]at e;cases e
 ·have aP:st=none:=gD;intro idx a ha hm;rcases mG idx a ha hm with z|z|⟨s,e,_⟩
  ·exact .inl z
  ·exact .inr (.inl z)
  ·rw[aP]at e;cases e
 ·refine⟨(gW hc).1,(gW R3).1,aG,(gW hc).2,(gW R3).2,by simp,λi hi=> ?_,λi i' j _ _ _ _ b5=> ?_,λj S b1=>by simp at b1,?_⟩
  ·rw[l8 i hi];exact⟨rfl,λ_=>rfl,rfl,λ_=>rfl,λe=>by obtain⟨q,eq⟩:=sE i;simp only[eq]at e;cases e⟩
  ·obtain⟨q,eq⟩:=sE i;simp only[eq]at b5;cases b5
  ·show if false=true then _ else _;rw[if_neg (by simp)];refine⟨hc,rfl,rfl,λi _ _=> .inr (sE i),by simp,?_⟩;have hz:∀N,sumTo N (λ_=>0)=0:=λN=>(by induction N with|zero=>rfl|succ N ih=>simp[sumTo,ih]);rw[Vj (g:=λ_=>0) λi _=>by obtain⟨q,eq⟩:=sE i;show (if i<gs.size then K i else GS.gone 0).cnt=0;rw[eq];rfl];exact hz _
theorem Inv.apI(h:Inv P n0 W0 V gs w t K Im ic (some p) st)(aH:p.recv=true)(iD:V.deaf=0){g0 g':SH}{n:Nat}(aX:w.heap[p.c]?=some (.chan 0 #[] true n n false)) {y:V_} (hy:y.g=0/\y.act=.recvClosed p.c):
  (∀S∈p.Ss,S=[])/\Inv P n0 W0 {V with role:=.plain} (gs.setIfInBounds 0 g') w (t++#[y]) K Im ic none none:=by
 obtain⟨de,gL,mG,gD⟩:=h.out;obtain⟨a1,a2,a3,a4,a5,a6,a7,a8,a9,bQ⟩:=gD;rw[if_pos aH]at bQ;obtain⟨c1,c2,c3,s,c4,c5⟩:=bQ;have xx:(∃pp n,s=.shut pp/\t.act? pp=some (.close p.c)/\t.heard pp/\w.heap[p.c]?=some (.chan 0 #[] true n n false))/\(sumTo gs.size λi=>(K i).late)=0/\(sumTo gs.size λi=>(K i).cnt)=0/\(K ic).shape=.gone 0:=by
  have no:¬∃n,w.heap[p.c]?=some (.chan 0 #[] false n n false):=λ⟨m,e⟩=>by rw[aX]at e;simp at e
  unfold Mode at c5;rcases c5 with m|m|m|m|m|m|m
  ·exact absurd m.1 no
  ·exact absurd m.1 no
  ·exact absurd m.1 no
  ·exact absurd m.1 no
  ·exact absurd m.1 no
  ·exact absurd m.1 no
  ·exact m
 obtain⟨⟨pp,n',rfl,m1,m2,_⟩,m3,m4,m5⟩:=xx;have sE:∀i,i<gs.size->∃q,K i=.gone q:=λi hi=>by
  have e1:(K i).cnt<=sumTo gs.size λi=>(K i).cnt:=Wz (f:=λi=>(K i).cnt) hi;have e2:(K i).late<=sumTo gs.size λi=>(K i).late:=Wz (f:=λi=>(K i).late) hi;rcases UX i with rfl|eO
  ·exact⟨0,h.k0⟩
  ·have hc:=h.rH (i:=i) eO;have z1:(K i).cnt=0:=(by omega);have z2:(K i).late=0:=(by omega);clear e1 e2;cases kQ:K i<;>rw[kQ]at z1 z2 hc<;>first
    |exact⟨_,rfl⟩
    |(exfalso;simp[GS.cnt]at z1;done)
    |(exfalso;simp[GS.late]at z2;done)
    |(exfalso;have:=hc rfl;subst this;rw[kQ]at m5;cases m5)
 have bV:jh p V:=⟨c1.1,c1.2.1,c1.2.2.1,c1.2.2.2⟩;have aQ:UR t 0=0:=by rw[h.d0,iD]
 have nA:∀op∈(#[y]:Um),op.act.touch?=none/\still op.act/\op.act.low w.heap.size/\(∀a,op.act≠ .mark (.release a))/\op.g=0:=by
  intro op au;simp only[TK,SL,S4,or_false]at au;subst au;rw[hy.2];exact⟨rfl,⟨by simp,by simp⟩,a4,by simp,hy.1⟩
 have bw:∀i,UR (t++#[y]) i=UR t i:=λi=>Deaf_still λop au=>(nA op au).2.1;have aV:(gs.setIfInBounds 0 g').size=gs.size:=by simp
 refine⟨λS hS=> ?_,?_⟩
 ·obtain⟨j,hj⟩:=UP.1 hS;apply Tu;intro aG;obtain⟨i,e1,e2,e3⟩:=a9 j S hj aG;obtain⟨q,e⟩:=sE i e2;rw[e]at e3;cases e3
 ·refine Inv.mk' (by rw[aV];exact h.pos) h.k0 (by rw[bw];exact h.d0) (λi x hi hx=> ?_) ?_ ?_ rfl
  ·rw[SU (by omega)]at hx;have hlt:i<gs.size:=(SR.1 hx).1;obtain⟨q,e⟩:=sE i hlt;have hk:(K i).is P p.c p.Wg Im p.Ss (UR t i) x:=de i x hi hx;rw[e]at hk;rw[bw];exact⟨q,e,hk⟩
  ·rw[aV];have h1:=(gL.role (i:=0) (V':={V with role:=.plain}) h.pos (by rw[kG]) (by rw[kG])).congr (DM:=bD {V with role:=.plain} Im K) λi hi=>by
    by_cases eO:i=0
    ·subst eO;rw[bu];simp[bD]
    ·rw[aZ _ _ eO];simp[bD,eO]
   have aaJ:∀i l,i<gs.size->gH (bD {V with role:=.plain} Im K i) l->¬qA p.c p.Wg l:=λi l hi hl=>by
    by_cases eO:i=0
    ·subst eO;have b':jh p (bD {V with role:=.plain} Im K 0):=(by simp only[bD,if_true];exact bV);exact b'.zJ hl
    ·obtain⟨q,e⟩:=sE i hi;have:bD {V with role:=.plain} Im K i=noView:=(by simp only[bD,eO,if_false,e];rfl);rw[this]at hl;exact afp.zJ hl
   refine⟨h1.sat,h1.dK,?_,h1.tape,h1.os,h1.out,h1.old,h1.jc,h1.n0⟩;have vS:=h1.ti.mute (u:=#[y]) (N':=gs.size) (rd':=λi l=>i<gs.size/\gH (bD {V with role:=.plain} Im K i) l/\¬rF none l) (wr':=λi l=>i<gs.size/\jH (bD {V with role:=.plain} Im K i) l/\¬rF none l) (act':=mW (some p) gs.size ic K) (kA:=ic)
    (λop au=>(nA op au).1) (λop au=>(nA op au).2.2.1) (λop au=>by rw[(nA op au).2.2.2.2];exact h.pos) (SP _) (λop au=>(nA op au).2.2.2.1)
    (λi hi l hl idx a ha gB hw=>(h1.ti.kr i hi l ⟨hl.1,hl.2.1,aaJ i l hi hl.2.1⟩ idx a ha gB hw).app _) (λi hi l hl idx a ha gB=>(h1.ti.kw i hi l ⟨hl.1,hl.2.1,aaJ i l hi hl.2.1.rd⟩ idx a ha gB).app _)
    (λidx a ha dG=>⟨λhp i hi=>((h1.ti.sp idx a ha dG).1 hp i hi).app _,λhp=>((h1.ti.sp idx a ha dG).2 hp).app _⟩)
   exact vS.weaken (SP _) (λ_ _ _ x=> .inl x) (λ_ _ _ x=>x) (λidx a _ hx=>hx.elim)
  ·have hr:Rest p.Wg t K ic st:=mG;rw[c4]at hr;intro idx a ha hm;have f_:=Ag (λop au=>(nA op au).1) ha;obtain⟨op,au,_⟩:=US f_;rcases hr idx a f_ hm with z|⟨z1,z2⟩|⟨s,hs,hx⟩
   ·exact .inl (z.app _)
   ·exact .inr (.inl ⟨z1,λz=>z2 ((Wo (TH au)).1 z)⟩)
   ·cases hs;exact .inl (afR m1 m2 hy aQ hx)
theorem Inv.amp(h:Inv P n0 W0 V gs w t K Im ic (some p) st)(aH:p.recv=true)(x:SH):Inv P n0 W0 V (gs.setIfInBounds 0 x) w t K Im ic (some p) st:=by
 obtain⟨de,gL,mG,gD⟩:=h.out;obtain⟨a1,a2,a3,a4,a5,a6,a7,a8,a9,bQ⟩:=gD;have aV:(gs.setIfInBounds 0 x).size=gs.size:=by simp
 rw[if_pos aH]at bQ;obtain⟨c1,c2,c3,s,c4,c5⟩:=bQ;refine Inv.mk' (by rw[aV];exact h.pos) h.k0 h.d0 (λi z hi hz=> ?_) (by rw[aV];exact gL) mG ⟨a1,a2,a3,a4,a5,a6,a7,by rw[aV];exact a8,by rw[aV];exact a9,?_⟩
 ·rw[SU (by omega)]at hz;exact de i z hi hz
 ·rw[if_pos aH];refine⟨c1,c2,by rw[aV];exact c3,s,c4,?_⟩;rw[aV];have e0:t=t++#[]:=by simp
  rw[e0];exact c5.keep (λ_=>rfl) rfl rfl λrc g hg=>by rw[SU (by omega)]at hg;exact rc g hg
end
def MJ (P:SJ)(Post:SO->Tp->Prop)(n0:Nat)(W0:Tp)(V:View)(g:SH):Prop:=
 g.status=.running/\∀gs w sl t K Im ic ph st,Inv P n0 W0 V gs w t K Im ic ph st->uT V.role ph->kj gs g->Ok P Post (crowd gs w sl) t
section
variable {P:SJ}{Post:SO->Tp->Prop}{n0:Nat}{W0:Tp}
def adm (P:SJ)(Post:SO->Tp->Prop)(gs:Array SH)(w:Tp)(sl:Option (Nat×Nat))(t:Um):Prop:=
 (∃m' ops,runT P (crowd gs w sl) 0=(.next m',ops)/\Ok P Post m' (t++ops))\/∃o w' ops,runT P (crowd gs w sl) 0=(.ended o w',ops)/\∀w0 C6,WV P Post (crowd gs w0 C6) o w' (t++ops)
theorem kj.pos{gs:Array SH}{g:SH}(h:kj gs g):∃(i:Nat)(x:SH),gs[i]?=some x/\x.status=.running:=by
 obtain⟨g0,h0,h1,_⟩:=h;exact⟨0,g0,h0,h1⟩
theorem MJ.iz{V:View}{g:SH}(hg:g.status=.running)(own:∀gs w sl t K Im ic ph st,Inv P n0 W0 V gs w t K Im ic ph st->uT V.role ph->kj gs g->adm P Post gs w sl t):MJ P Post n0 W0 V g:=by
 refine⟨hg,λgs w sl t K Im ic ph st h hr hm=> ?_⟩;generalize hN:gs.size=N;generalize hμ:((λj=>(K j).cY),flag gs ic)=μ;induction μ using(aaC N).induction generalizing gs w sl t K st with
 |_ μ ih=>
  obtain⟨i,gi,d,ox,aM,bH,aP⟩:=ZS (P:=P) (w:=w) (sl:=sl) (h.awake (.inl hm)) hm.pos;have hd:=h.draw d;rcases UX i with rfl|hi
  ·rcases own _ _ ox _ _ _ _ _ _ hd hr hm with⟨m',ops,h1,h2⟩|⟨o,w',ops,h1,h2⟩
   ·exact Ok.step (aP.trans h1) h2
   ·exact Ok.end (aP.trans h1) (h2 w sl)
  ·rcases hd.other (sl:=ox) (.inl hm) hi aM bH with⟨gs',w',ops,K',st',h1,h2,h3,h4,_,h5⟩|⟨p,_,_,iY⟩
   ·have oV:kj gs' g:=by
     cases ph with
     |none=>exact(h4 g 0 (by simp)).1 hm
     |some p=>exact(h4 g p.c (λq hq=>by cases hq;rfl)).1 hm
    exact Ok.step (aP.trans h1) (ih _ (by rw[<- hμ,<- hN];exact h5) gs' w' ox _ K' st' h3 oV (by rw[h2,hN]) rfl)
   ·obtain⟨g0,h0,hs,_⟩:=hm;obtain⟨g1,z,h1,_⟩:=iY;rw[h1]at h0;cases h0;cases hs
theorem MJ.recv{V:View}{g:SH}{c Wg:Nat}{Ss:List (List Spec)}{z:SO}(iZ:V.role=.recv c Wg Ss)(iD:V.deaf=0)(hg:g.status=.running)
  (k_:∀w,Sat V w->stepG P true g w=.comm g #[rcase c z] true (.recv true) w #[])
  (J1:∀(i:Nat) sp S v Im Ow,Ss[i]?=some (sp::S)->sp v Im Ow->(∀b,V.own b≠none->Ow b=none)->(∀b o,V.own b≠none->Im b o≠none->V.ab b o≠none)->(∃w,Sat V w/\(∀b o x,Im b o=some x->w.cell? ⟨b,o,none⟩=some x)/\∀b x,Ow b=some x->w.heap[b]?=some x)->
   MJ P Post n0 W0 (nD V Im Ow (.recv c Wg (Ss.set i S))) (T4 g (.tuple #[v,.bool true])))
  (J2:(∀S∈Ss,S=[])->MJ P Post n0 W0 {V with role:=.plain} (T4 g (.tuple #[z,.bool false]))):MJ P Post n0 W0 V g:=by
 have met:∀{gs w sl t K Im ic st i},Inv P n0 W0 V gs w t K Im ic (some ⟨c,Wg,Ss,true⟩) st->DJ P n0 W0 V gs w sl t Im ic ⟨c,Wg,Ss,true⟩ st g i->∀{m},stepT P m=runT P (crowd gs w sl) i->Ok P Post m t:=by
  rintro gs w sl t K Im ic st i _ ⟨gs',w',ops,K',j,sp,S,v,kI,Ow,h1,h2,h3,h4,h5,h6,h6',h7,h8⟩ m hm
  exact Ok.step (hm.trans h1) ((J1 j sp S v kI Ow h4 h5 h6 h6' h7).2 gs' w' sl _ K' Im ic _ st h8 rfl h3)
 refine⟨hg,λgs w sl t K Im ic ph st h hr hm=> ?_⟩;have gD:ph=some ⟨c,Wg,Ss,true⟩:=by rw[iZ]at hr;exact hr
 subst gD
 suffices key:∀N μ gs w sl t K st,Inv P n0 W0 V gs w t K Im ic (some ⟨c,Wg,Ss,true⟩) st->gs.size=N->((λj=>(K j).cY),flag gs ic)=μ->(kj gs g\/(nN gs g c/\Calm gs/\ym w c))->Ok P Post (crowd gs w sl) t from key _ _ gs w sl t K st h rfl rfl (.inl hm)
 clear h hr hm;intro N μ;induction μ using(aaC N).induction with
 |_ μ ih=>
  have A:∀gs w sl t K st,Inv P n0 W0 V gs w t K Im ic (some ⟨c,Wg,Ss,true⟩) st->gs.size=N->((λj=>(K j).cY),flag gs ic)=μ->nN gs g c->Calm gs->ym w c->Ok P Post (crowd gs w sl) t:=by
   intro gs w sl t K st h hN hμ iY sA ho;have pV:kj gs g\/∃p,some (Phase.mk c Wg Ss true)=some p/\p.recv=true/\V.deaf=0/\nN gs g p.c:=.inr ⟨_,rfl,rfl,iD,iY⟩;have akQ:∃(i:Nat)(x:SH),gs[i]?=some x/\x.status=.running:=by
    obtain⟨i,x,_,h1,h2⟩:=h.apM rfl ho sA;exact⟨i,x,h1,h2⟩
   obtain⟨i,gi,d,ox,aM,bH,aP⟩:=ZS (P:=P) (w:=w) (sl:=sl) (h.awake pV) akQ;have hd:=h.draw d;have hi:0<i:=by
    rcases UX i with rfl|hi
    ·obtain⟨g1,z1,h1,_⟩:=iY;rw[h1]at aM;cases aM;cases bH
    ·exact hi
   rcases hd.other (sl:=ox) pV hi aM bH with⟨gs',w',ops,K',st',h1,h2,h3,h4,h5,h6⟩|⟨p,hp,uf,_⟩
   ·refine Ok.step (aP.trans h1) (ih _ (by rw[<- hμ,<- hN];exact h6) gs' w' ox _ K' st' h3 (by rw[h2,hN]) rfl ?_);rcases(h4 g c (λq hq=>by cases hq;rfl)).2 iY ho with x|⟨x,y⟩
    ·exact .inl x
    ·exact .inr ⟨x,h5 g c iY sA,y⟩
   ·cases hp;exact met hd uf aP
  intro gs w sl t K st h hN hμ oV;rcases oV with hm|⟨h1,h2,h3⟩
  ·obtain⟨i,gi,d,ox,aM,bH,aP⟩:=ZS (P:=P) (w:=w) (sl:=sl) (h.awake (.inl hm)) hm.pos;have hd:=h.draw d;rcases UX i with rfl|hi
   ·
    obtain⟨g0,h0,oc,kU,iG,mE⟩:=hm;have fq:Sat V (w.at d):=(by have:=hd.core.sat 0 h.pos;rwa [kG]at this);have kZ:stepG P (0==0) g0 (w.at d)=.comm g #[rcase c z] true (.recv true) (w.at d) #[]:=(by rw[<- k_ _ fq];exact Xa kU iG mE _);have e0:(t++Ta 0 g0.frame.fn g0.frame.place #[])=t:=(by simp[Ta]);rcases hd.opens rfl with⟨n,gC⟩|⟨aj7,⟨n,aX⟩,_⟩
    ·by_cases Rx:∃i j h' V₁ V₂ g1 v z1,0<i/\i<gs.size/\K i=.nI j h' V₁ V₂ g1 v z1
     ·exact met hd (hd.aoG (sl:=ox) rfl iD ⟨g0,h0,oc,kU,iG,mE⟩ (k_ _ fq) Rx) aP
     ·have offers:∀m x,0<m->gs[m]?=some x->x.status=.blocked->x.offers=none:=by
       intro m x iJ hx hb;rcases GS.runs (show (K m).is P c Wg Im Ss (UR t m) x from h.is m x iJ hx)with e|⟨e,_⟩|⟨j,h',V1,V2,g1,v,z1,e⟩|⟨_,_,e⟩
       ·rw[e]at hb;cases hb
       ·rw[e]at hb;cases hb
       ·exact absurd ⟨m,j,h',V1,V2,g1,v,z1,iJ,(SR.1 hx).1,e⟩ Rx
       ·exact e
      have hw:=crowd_waits (P:=P) (sl:=ox) (i:=0) h0 kZ (λcc iV=>by
       simp only[TK,SL,S4,or_false]at iV;subst iV;refine ways_recv_none gC (partners_nil λm x hx=> ?_);rcases X8 gs 0 m x hx with⟨_,rfl⟩|⟨iJ,jy⟩
       ·exact Zj _ _
       ·by_cases hb:x.status=.blocked
        ·unfold offersAt;simp[hb,offers m x (by omega) jy hb]
        ·exact UT hb _ _)
      refine Ok.step (aP.trans hw) ?_;rw[e0];refine A _ (w.at d) ox t K st (hd.amp rfl _) (by simp[hN]) ?_ ⟨g,z,?_,rfl,rfl,rfl⟩ (λm x iJ hx hb=> ?_) ⟨n,gC⟩
      ·rw[<- hμ];have fM:0<ic:=(by obtain⟨_,_,x,_⟩:=h.mode rfl;exact x);unfold flag;rw[SU (by omega)]
      ·rw[S_ h.pos]
      ·rw[SU (by omega)]at hx;exact offers m x iJ hx hb
    ·have hp:partners (gs.setIfInBounds 0 ph) c true=[]:=partners_nil λm x hx=>by
      rcases X8 gs 0 m x hx with⟨_,rfl⟩|⟨iJ,jy⟩
      ·exact Zj _ _
      ·have hlt:m<gs.size:=(SR.1 jy).1;rcases GS.runs (show (K m).is P c Wg Im Ss (UR t m) x from h.is m x (by omega) jy)with e|⟨e,_⟩|⟨j,h',V1,V2,g1,v,z1,e⟩|⟨_,eb,e⟩
       ·exact UT (by rw[e];simp) _ _
       ·exact UT (by rw[e];simp) _ _
       ·have:=aj7 m (by omega) hlt;rw[e]at this;cases this
       ·unfold offersAt;simp[eb,e]
     have hw:=crowd_recv_closed (P:=P) (sl:=ox) (i:=0) h0 kZ aX hp;refine Ok.step (aP.trans hw) ?_;rw[Yv,<- Xp,e0];obtain⟨hS,hinv⟩:=hd.apI rfl iD (g0:=g0) (g':=T4 g (recvd true z false)) aX (y:={g:=0,fn:=g.frame.fn,pos:=g.frame.place,act:=.recvClosed c}) ⟨rfl,rfl⟩;exact(J2 hS).2 _ (w.at d) ox _ K Im ic none none hinv rfl ⟨T4 g (recvd true z false),by rw[S_ h.pos],rfl,rfl,rfl,rfl⟩
   ·rcases hd.other (sl:=ox) (.inl hm) hi aM bH with⟨gs',w',ops,K',st',h1,h2,h3,h4,_,h5⟩|⟨p,_,_,iY⟩
    ·exact Ok.step (aP.trans h1) (ih _ (by rw[<- hμ,<- hN];exact h5) gs' w' ox _ K' st' h3 (by rw[h2,hN]) rfl (.inl ((h4 g c (λq hq=>by cases hq;rfl)).1 hm)))
    ·obtain⟨g0,h0,hs,_⟩:=hm;obtain⟨g1,z1,h1,_⟩:=iY;rw[h1]at h0;cases h0;cases hs
  ·exact A gs w sl t K st h hN hμ h1 h2 h3
theorem amD:Closed true P true (MJ P Post n0 W0)where
 step V g hs h:=by
  refine MJ.iz hs λgs w sl t K Im ic ph st hI hr ⟨g0,h0,oc,kU,iG,mE⟩=> .inl ?_;have fq:Sat V w:=by have:=hI.core.sat 0 hI.pos;rwa [kG]at this
  obtain⟨g',w',es,V',h1,h2,h3⟩:=h w fq;have aP:stepG P (0==0) g0 w=.go g' w' es:=by rw[<- h1];exact Xa kU iG mE w
  refine⟨_,_,runT_crowd_go h0 aP,h3.2 _ w' sl _ K Im ic ph st (hI.aau h0 h2 hr) (by rw[h2.role];exact hr) ⟨g',?_,h3.1,rfl,rfl,rfl⟩⟩;rw[S_ (by simpa using hI.pos)]
 ghost V V' g hg h:=⟨h.1,λgs w sl t K Im ic ph st hI hr hm=>h.2 gs w sl t K Im ic ph st (hI.amo hg hr) (by rw[hg.role];exact hr) hm⟩
 send V g c Wg sp S v z B hr hd hs ho h1 h2 h3:=⟨hs,λgs w sl t K Im ic ph st hI bX hm=>by rw[hr]at bX;exact bX.elim⟩
 done V g c Wg hr hd h1:=⟨h1.1,λgs w sl t K Im ic ph st hI bX hm=>by rw[hr]at bX;exact bX.elim⟩
 slip V g g' c Wg hr hs h1 h2:=⟨hs,λgs w sl t K Im ic ph st hI bX hm=>by rw[hr]at bX;exact bX.elim⟩
 more _:={
  start:=λV g c Wg hr aG hc hW nZ h=>⟨h.1,λgs w sl t K Im ic ph st hI bX hm=>by
   rw[hr]at bX;cases bX;exact h.2 gs w sl t _ Im 0 _ _ (hI.begin aG hc hW nZ) rfl hm⟩
  Ep:=λV g g' child c Wg Ss sp S hr hd hs hc hW hlen nZ aP eS KW h=>by
   refine MJ.iz hs λgs w sl t K Im ic ph st hI bX ⟨g0,h0,oc,kU,iG,mE⟩=> .inl ?_;rw[hr]at bX;cases bX;have fq:Sat V w:=(by have:=hI.core.sat 0 hI.pos;rwa [kG]at this);have lF:stepG P (0==0) g0 w=.spawn g' child w #[]:=(by rw[<- aP w fq];exact Xa kU iG mE w);obtain⟨hh,hk⟩:=KW _ (arq P);have bH:=Z8 (P:=P) (sl:=sl) h0 lF;have e0:Ta 0 g0.frame.fn g0.frame.place #[]=#[]:=rfl;rw[e0]at bH;have hinv:=hI.Ep (g':=g') (x:={g:=0,fn:=g0.frame.fn,pos:=g0.frame.place,act:=.go gs.size}) (y:={g:=gs.size,fn:=child.frame.fn,pos:=g0.frame.place,act:=.start}) rfl hd ⟨rfl,rfl⟩ ⟨rfl,rfl⟩ hlen nZ hk;exact⟨_,_,bH,h.2 _ w sl _ _ Im ic _ _ hinv rfl ⟨g',by rw[Xg,if_neg (by simp;have:=hI.pos;omega),S_ hI.pos],h.1,rfl,rfl,rfl⟩⟩
  Eo:=λV g g' child c Wg Ss hr hd hs aG hc hW yZ nZ aP eS aX h=>by
   refine MJ.iz hs λgs w sl t K Im ic ph st hI bX ⟨g0,h0,oc,kU,iG,mE⟩=> .inl ?_;rw[hr]at bX;cases bX;have fq:Sat V w:=(by have:=hI.core.sat 0 hI.pos;rwa [kG]at this);have lF:stepG P (0==0) g0 w=.spawn g' child w #[]:=(by rw[<- aP w fq];exact Xa kU iG mE w);obtain⟨n,hk⟩:=aX;have bH:=Z8 (P:=P) (sl:=sl) h0 lF;have e0:Ta 0 g0.frame.fn g0.frame.place #[]=#[]:=rfl;rw[e0]at bH;have hinv:=hI.Eo (g':=g') (x:={g:=0,fn:=g0.frame.fn,pos:=g0.frame.place,act:=.go gs.size}) (y:={g:=gs.size,fn:=child.frame.fn,pos:=g0.frame.place,act:=.start}) rfl hd ⟨rfl,rfl⟩ ⟨rfl,rfl⟩ hW nZ hk;exact⟨_,_,bH,h.2 _ w sl _ _ V.ab gs.size _ _ hinv rfl ⟨g',by rw[Xg,if_neg (by simp;have:=hI.pos;omega),S_ hI.pos],h.1,rfl,rfl,rfl⟩⟩
  recv:=λV g c Wg Ss z hr hd hs ho aP j1 j2=>MJ.recv hr hd hs aP j1 j2}
structure Left (n0:Nat)(W0 w:Tp):Prop where
 tape:w.tape=W0.tape
 os:w.os=W0.os
 out:w.output=W0.output
 old:∀b,b<n0->w.heap[b]?=W0.heap[b]?
 size:n0<=w.heap.size
theorem Inv.I7{V:View}{gs:Array SH}{w:Tp}{t:Um}{K:Nat->GS}{Im:cq}{ic:Nat}{st:Option eg}(h:Inv P n0 W0 V gs w t K Im ic none st){v:SO}(hp:Post v w)(w0:Tp)(C6:Option (Nat×Nat)):WV P Post (crowd gs w0 C6) (.done v) w t:=by
 obtain⟨de,gL,mG,aP⟩:=h.out;have lF:st=none:=aP;refine⟨v,rfl,hp,gL.ti.nr,?_,⟨?_,rfl⟩,?_⟩
 ·intro i g hg oc ⟨x,hx,hm,hk⟩;rcases mG i x hx hm with⟨q,z,h1,h2,h3⟩|⟨h1,h2⟩|⟨_,h1,_⟩
  ·rcases h3 with rfl|h3
   ·exfalso;simp only[Wx,h1,UN,Tl]at hg;omega
   ·exact⟨q,by simp[Wx,h1,h2],h3⟩
  ·rcases hk with hk|hk
   ·exact absurd h1 hk
   ·exact absurd hk h2
  ·rw[lF]at h1;cases h1
 ·intro g hg;obtain⟨i,hi⟩:=UP.1 hg;rw[Uo]at hi;have cx:gs[1+i]?=some g:=by simpa[crowd]using hi
  obtain⟨q,_,hq⟩:=de (1+i) g (by omega) cx;exact⟨q,hq.leaves⟩
 ·intro i g hi eO;obtain⟨q,_,hq⟩:=de i g (by omega) hi;exact⟨q,hq.hears _⟩
theorem MJ.end{V:View}{g:SH}(hg:g.status=.running)(hr:V.role=.plain)
  (h:∀w,Sat V w->Left n0 W0 w->(∀b,b<n0->V.own b=none)->∃v w' es V',stepG P true g w=.ended (.done v) w' es/\da V w V' w' es/\Post v w'):MJ P Post n0 W0 V g:=by
 refine MJ.iz hg λgs w sl t K Im ic ph st hI bX ⟨g0,h0,oc,kU,iG,mE⟩=> .inr ?_;have gL:=hI.out.2.1;have fq:Sat V w:=by have:=hI.core.sat 0 hI.pos;rwa [kG]at this
 obtain⟨v,w',es,V',h1,h2,h3⟩:=h w fq ⟨gL.tape,gL.os,gL.out,gL.old,gL.n0⟩ (λb hb=>by have:=gL.jc 0 hI.pos b hb;rwa [kG]at this);have aP:stepG P (0==0) g0 w=.ended (.done v) w' es:=by rw[<- h1];exact Xa kU iG mE w
 refine⟨_,w',_,runT_crowd_ended h0 aP,λw0 C6=> ?_⟩;have gD:ph=none:=by rw[hr]at bX;exact bX
 subst gD;have hinv:=hI.aau (g':=g0) h0 h2 bX;have sD:=hinv.I7 (Post:=Post) h3 w0 C6;obtain⟨v',e,hp,hn,hh,hl,hd⟩:=sD;refine⟨v',e,hp,hn,hh,⟨?_,rfl⟩,?_⟩
 ·intro g JP;obtain⟨i,hi⟩:=UP.1 JP;rw[Uo]at hi;have cx:gs[1+i]?=some g:=by simpa[crowd]using hi
  obtain⟨q,_,hq⟩:=hI.out.1 (1+i) g (by omega) cx;exact⟨q,hq.leaves⟩
 ·intro i g hi eO;obtain⟨q,_,hq⟩:=hI.out.1 i g (by omega) hi;refine⟨q,?_⟩;have:(t++Ta 0 g0.frame.fn g0.frame.place es).deaf i (t++Ta 0 g0.frame.fn g0.frame.place es).size=UR t i:=
   ate t (g:=i) (g':=0) (by omega) _ λop au=>by obtain⟨e,_,rfl⟩:=TM au;rfl
  rw[this];exact hq.hears _
theorem Inv.init(W:Tp){V:View}(ho:V.own=λ_=>none)(hd:V.deaf=0)(hs:Sat V W)(g:SH):Inv P W.heap.size W V #[g] W #[] (λ_=> .gone 0) V.ab 0 none none:=by
 have fl:∀i,i<(1:Nat)->bD V V.ab (λ_=> .gone 0) i=V:=λi hi=>by
  obtain rfl:i=0:=by omega
  simp[bD]
 refine Inv.mk' (by simp) rfl (by rw[hd];rfl) (λi x hi hx=> ?_) ⟨λi hi=>by rw[fl i hi];exact hs,λi j hi hj j6=> ?_,?_,rfl,rfl,rfl,λ_ _=>rfl,λi hi b _=>by rw[fl i hi,ho],SP _⟩ ?_ rfl
 ·exfalso;have:=(SR.1 hx).1;simp at this;omega
 ·simp at hi hj;omega
 ·refine⟨λsaid hr=> ?_,by simp,by simp,by simp,λi _ l _ idx a ha=> ?_,λi _ l _ idx a ha=> ?_,λidx a ha=> ?_⟩
  ·obtain⟨i,j,_,⟨a,b,ha,_⟩,_⟩:=hr;obtain⟨op,au,_⟩:=US ha;simp at au
  ·obtain⟨op,au,_⟩:=US ha;simp at au
  ·obtain⟨op,au,_⟩:=US ha;simp at au
  ·obtain⟨op,au,_⟩:=US ha;simp at au
 ·intro idx a ha _;obtain⟨op,au,_⟩:=US ha;simp at au
theorem aiQ{f:TQ}{args:Array SO}{W:Tp}{V:View}{R:Out->View->Prop}(hi:P.inits.idxOf? f=none)(ho:V.own=λ_=>none)(hd:V.deaf=0)(bX:V.role=.plain)(hs:Sat V W)(h:Body true P f args .normal V R)
  (hR:∀o V',R o V'->V'.role=.plain/\∃v,o=.ret v/\∀w,Sat V' w->Left W.heap.size W w->Post v w):
  ∃M last o w' t',runNT P (M+1) (solo (G (Frame.enter P f args .normal) []) W) #[]=(.ended o w',t')/\runN P M (solo (G (Frame.enter P f args .normal) []) W)=.next last/\step P last=.ended o w'/\WV P Post last o w' t':=by
 have hJ:MJ P Post W.heap.size W V (G (Frame.enter P f args .normal) []):=by
  refine h true _ amD [] λo V' fr r hl=> ?_;obtain⟨hr,v,rfl,hp⟩:=hR _ _ r;obtain⟨rfl,bw,hk,fn,hf,hm,gn⟩:=hl;refine MJ.end rfl hr λw hw zh hold=> ?_;obtain⟨es,w',aR,h1,h2,h3⟩:=gn.runs hw;rcases h3 with⟨x,h3,rfl,rfl⟩|⟨_,_,hx⟩
  ·refine⟨x,w',seen P fr.fn es,aR,by simp[G,stepG,unwind,doReturn,hm,bw,hk,hf,h3,h2,T1,hi],h1.seen P fr.fn,?_⟩;refine hp w' h1.sat ⟨h1.tape.trans zh.tape,h1.os.trans zh.os,h1.output.trans zh.out,λb hb=> ?_,UF zh.size h1.size⟩;rw[h1.frame b (Td hb zh.size) (hold b hb)];exact zh.old b hb
  ·exact hx.elim
 exact hJ.2 #[_] W none #[] _ _ _ none none (Inv.init W ho hd hs _) (by rw[bX];rfl) ⟨_,rfl,rfl,rfl,rfl,rfl⟩
end
def gp (P:SJ)(main:Bool)(g:SH):SH:=match stepG P main g default with
 |.go g' _ _=>g'
 |_=>g
def zK (P:SJ)(main:Bool)(g:SH):Array Uq:=match stepG P main g default with
 |.go _ _ es=>es
 |_=>#[]
def cC (P:SJ)(main:Bool):Nat->SH->SH
 |0,g=>g
 |n+1,g=>cC P main n (gp P main g)
def fE (P:SJ)(main:Bool)(w:Tp):Nat->SH->List Zz
 |0,_=>[]
 |n+1,g=>stepG P main g w::fE P main w n (gp P main g)
def fx (P:SJ)(main:Bool)(w:Tp):Nat->SH->List Zz
 |0,_=>[]
 |n+1,g=> .go (gp P main g) w (zK P main g)::fx P main w n (gp P main g)
def bL (g:SH):Bool:=match g.status with
 |.running=>true
 |_=>false
theorem bL.out{g:SH}(h:bL g=true):g.status=.running:=by
 unfold bL at h;split at h
 ·assumption
 ·cases h
def iL (P:SJ)(main:Bool):Nat->SH->Bool
 |0,_=>true
 |n+1,g=>bL g&&(zK P main g).all WC&&iL P main n (gp P main g)
def ou (P:SJ)(main:Bool):Nat->SH->Bool
 |0,_=>true
 |n+1,g=>bL g&&(zK P main g).isEmpty&&ou P main n (gp P main g)
def jK (P:SJ)(main:Bool):Nat->Nat->SH->Nat
 |0,d,_=>d
 |n+1,d,g=>jK P main n (deafBehind d (zK P main g)) (gp P main g)
section
variable {P:SJ}
theorem LR{n:Nat}{main:Bool}{g:SH}(h:iL P main (n+1) g=true):g.status=.running/\(∀e∈zK P main g,WC e=true)/\iL P main n (gp P main g)=true:=by
 simp only[iL,Tc]at h;exact⟨bL.out h.1.1,λe he=>UD.1 h.1.2 e he,h.2⟩
theorem wh{Stop:Nat->SH->Prop}:∀(n d:Nat)(g:SH),(∀w,fE P false w n g=fx P false w n g)->iL P false n g=true->(∃m,cP P Stop m (jK P false n d g) (cC P false n g))->∃m,cP P Stop m d g
 |0,d,g,_,_,hs=>hs
 |n+1,d,g,h,hm,hs=>by
  obtain⟨h1,h2,h3⟩:=LR hm;obtain⟨m,hm⟩:=wh n _ (gp P false g) (λw=>(Vu (h w)).2) h3 hs;exact⟨m+1,.inr ⟨h1,_,_,h2,λw=>(Vu (h w)).1,hm⟩⟩
theorem ab6{Wg:Nat}{Stop:Nat->SH->Prop}:∀(n d:Nat)(g:SH),(∀w,fE P false w n g=fx P false w n g)->iL P false n g=true->(∃m,gR P Wg Stop m (jK P false n d g) (cC P false n g))->∃m,gR P Wg Stop m d g
 |0,d,g,_,_,hs=>hs
 |n+1,d,g,h,hm,hs=>by
  obtain⟨h1,h2,h3⟩:=LR hm;obtain⟨m,hm⟩:=ab6 n _ (gp P false g) (λw=>(Vu (h w)).2) h3 hs;exact⟨m+1,.inr ⟨h1,_,_,h2,λw _ _ _=>(Vu (h w)).1,hm⟩⟩
theorem ab7{Wg:Nat}{Stop:Nat->SH->Prop}{d:Nat}{g g':SH}(hr:g.status=.running)(h:∀w x y,WgAt P Wg w x y->stepG P false g w=.go g' w #[]) (hs:∃m,gR P Wg Stop m d g'):∃m,gR P Wg Stop m d g:=by
 obtain⟨m,hm⟩:=hs;exact⟨m+1,.inr ⟨hr,g',#[],by simp,h,by simpa[deafBehind]using hm⟩⟩
theorem Gy:∀(n d:Nat)(g:SH),(∀w,fE P false w n g=fx P false w n g)->iL P false n g=true->(∃q,Y2 P q (jK P false n d g) (cC P false n g))->∃q,Y2 P q d g
 |0,d,g,_,_,hs=>hs
 |n+1,d,g,h,hm,hs=>by
  obtain⟨h1,h2,h3⟩:=LR hm;obtain⟨m,hm⟩:=Gy n _ (gp P false g) (λw=>(Vu (h w)).2) h3 hs;exact⟨m+1,.inr ⟨h1,_,_,h2,λw=>(Vu (h w)).1,hm⟩⟩
theorem Mv{d:Nat}{g:SH}(h:g.status=.finished)(hd:d=0):∃q,Y2 P q d g:=⟨0,h,hd⟩
theorem aoB{n:Nat}{main:Bool}{g:SH}(h:ou P main (n+1) g=true):g.status=.running/\zK P main g=#[]/\ou P main n (gp P main g)=true:=by
 simp only[ou,Tc]at h;exact⟨bL.out h.1.1,by simpa using h.1.2,h.2⟩
theorem sT{lv main:Bool}{J:View->SH->Prop}(C:Closed lv P main J){V:View}:∀(n:Nat)(g:SH),(∀w,fE P main w n g=fx P main w n g)->ou P main n g=true->J V (cC P main n g)->J V g
 |0,g,_,_,hs=>hs
 |n+1,g,h,hm,hs=>by
  obtain⟨h1,h2,h3⟩:=aoB hm;refine C.idle h1 (λw=> ?_) (sT C n (gp P main g) (λw=>(Vu (h w)).2) h3 hs);rw[(Vu (h w)).1,h2]
theorem Closed.mute{lv main:Bool}{J:View->SH->Prop}(C:Closed lv P main J){V:View}{g g':SH}{m:Mark}(hm:m=.disable\/m=.enable)(hr:g.status=.running)(h:∀w,stepG P main g w=.go g' w #[⟨.mark m,false,true⟩]) (hJ:J {V with deaf:=deafBehind V.deaf #[⟨.mark m,false,true⟩]} g'):J V g:=by
 refine C.step _ _ hr λw hw=> ?_;have hs:=apt (P:=P) (V:=V) (k:=(.pure ():Sem Unit)) (K:=λ_ V'=>V'={V with deaf:=deafBehind V.deaf #[⟨.mark m,false,true⟩]}) (Kp:=λ_ _=>False) hm (cF rfl);obtain⟨es,w',V',k1,k2,k3⟩:=hs.runs hw;rcases k3 with⟨x,k3,rfl⟩|⟨_,_,hx⟩
 ·have e1:Yf () w=Yf x w':=k3;have e2:es=#[⟨.mark m,false,true⟩]:=k2.symm;cases e1;subst e2;refine⟨g',w,_,_,h w,?_,hJ⟩;rwa [sW (by rcases hm with rfl|rfl<;>simp)]at k1
 ·exact hx.elim
def ready (g:SH):Option Tv:=match g with
 |{frame:={fn:=_,tmps,todo:=.inRegion ops (i::_)::_,defers:=_,mode:=.run,kind,roundOf:=none},callers:=_,status:=.running,dying:=none,offers:=none}=>
  match ops[i]?with
  |some o=>if Th o (yielded ops tmps)&& !(kind== .early)then some o else none
  |none=>none
 |_=>none
def fin (g:SH)(v:SO):SH:={g with frame:=g.frame.finish v}
theorem ready.out{g:SH}{o:Tv}(h:ready g=some o):∃(b:T9)(a:Act)(ops:Array Tv)(i:Nat)(rest:List Nat)(k:List WR)(cs:List T9),g=G (b.at a (.inRegion ops (i::rest)::k)) cs/\ops[i]?=some o/\Th o (yielded ops a.tmps)=true/\b.kind≠ .early/\a.eval=g.frame.eval/\
  (∀v,G (b.at (a.put o.dst v) (.inRegion ops rest::k)) cs=fin g v)/\b.fn=g.frame.fn/\g.status=.running:=by
 unfold ready at h;split at h
 ·rename_i fn tmps ops i rest k defers kind cs;split at h
  ·rename_i o' ho;split at h
   ·rename_i hw;cases h;simp only[Tc,TV,beq_eq_false_iff_ne,ne_eq]at hw;refine⟨{(default:T9)with fn,kind},⟨tmps,defers⟩,ops,i,rest,k,cs,rfl,ho,hw.1,hw.2,?_,λv=> ?_,rfl,rfl⟩
    ·funext x;cases x<;>rfl
    ·unfold fin;have:=Frame.finish_at {(default:T9)with fn,kind} ⟨tmps,defers⟩ ops i rest k v;rw[ho]at this;simp only[Frame.at,Option.bind_some]at this⊢;rw[this];rfl
   ·cases h
  ·cases h
 ·cases h
def cj (g:SH):Option (TQ×Array SO):=match ready g with
 |some {op:=.call {callee:=.value (.func f),args, .. }, .. }=>some (f,args.map g.frame.eval)
 |_=>none
theorem cj.out{g:SH}{f:TQ}{vs:Array SO}(h:cj g=some (f,vs)):∃o aD lT,ready g=some o/\o.op=.call {callee:=.value (.func f),args:=aD,argTypes:=lT}/\aD.map g.frame.eval=vs:=by
 unfold cj at h;split at h
 ·rename_i f' aD lT dst ty pos af gd ho;cases h;exact⟨_,_,_,ho,rfl,rfl⟩
 ·cases h
structure Ext (P:SJ)(f:TQ)(e:Array SO->Sem SO):Prop where
 fn : ∃ fn, P.funcs[f]? = some fn /\ (fn.name == "runtime.NumGoroutine") = false /\ fn.body.isNone = true /\ Extern.findNext fn = none /\ Extern.find fn = some e
variable {main:Bool}{g:SH}{f:TQ}{w:Tp}
theorem aca{v d:Int}{k:TU}{ad:U1}(h:cj g=some (f,#[.pointer (some ad),.int k d])) (he:Ext P f (XO (atl .add) k true)) (hc:w.cell? ad=some (.int k v)) (hz:w.frozen? ad=false):
  stepG P main g w=.go (fin g (.int k (k.wrap (v+d)))) (w.setCell ad (.int k (k.wrap (v+d)))) #[⟨.cell ad,false,true⟩,⟨.cell ad,true,true⟩]:=by
 obtain⟨o,aD,lT,h1,h2,h3⟩:=cj.out h;obtain⟨b,a,ops,i,rest,kk,cs,e,q1,q2,q3,q4,q5,q6,_⟩:=ready.out h1;obtain⟨fn,f1,f2,f3,f4,f5⟩:=he.fn;rw[<- q4]at h3;rw[<- q5];refine VG (congrArg (λx=>stepG P main x w) e) ?_;exact ZA q1 q2 q3 h2 f1 f2 f3 f4 f5 (by rw[h3];exact run_add_entry hc hz) (by rw[h3,events_add_entry hc hz];rfl) (sync_rw ad)
theorem MO{v:Int}{k:TU}{ad:U1}(h:cj g=some (f,#[.pointer (some ad)])) (he:Ext P f (XZ (.int k))) (hc:w.cell? ad=some (.int k v)):
  stepG P main g w=.go (fin g (.int k v)) w #[⟨.cell ad,false,true⟩]:=by
 obtain⟨o,aD,lT,h1,h2,h3⟩:=cj.out h;obtain⟨b,a,ops,i,rest,kk,cs,e,q1,q2,q3,q4,q5,q6,_⟩:=ready.out h1;obtain⟨fn,f1,f2,f3,f4,f5⟩:=he.fn;rw[<- q4]at h3;rw[<- q5];refine VG (congrArg (λx=>stepG P main x w) e) ?_;obtain⟨x,rfl⟩:∃x,aD=#[x]:=by
  have:aD.size=1:=by have:=congrArg Z' h3;simpa using this
  exact Array.size_eq_one_iff.1 this
 exact stepG_load_atomic q1 q2 q3 h2 f1 f2 f3 f4 k f5 (by simpa using h3) hc
theorem ap4{v:Int}{u:SO}{k:TU}{ad:U1}(h:cj g=some (f,#[.pointer (some ad),.int k v])) (he:Ext P f XP) (hc:w.cell? ad=some u) (hz:w.frozen? ad=false):
  stepG P main g w=.go (fin g (.tuple #[])) (w.setCell ad (.int k v)) #[⟨.cell ad,true,true⟩]:=by
 obtain⟨o,aD,lT,h1,h2,h3⟩:=cj.out h;obtain⟨b,a,ops,i,rest,kk,cs,e,q1,q2,q3,q4,q5,q6,_⟩:=ready.out h1;obtain⟨fn,f1,f2,f3,f4,f5⟩:=he.fn;rw[<- q4]at h3;rw[<- q5];refine VG (congrArg (λx=>stepG P main x w) e) ?_;obtain⟨x,y,rfl⟩:∃x y,aD=#[x,y]:=by
  have:aD.toList.length=2:=by have:=congrArg Z' h3;simpa using this
  obtain⟨l⟩:=aD
  match l,this with
  |[x,y],_=>exact⟨x,y,rfl⟩
 have vo:a.eval x=.pointer (some ad)/\a.eval y=.int k v:=by simpa using h3
 exact stepG_store_atomic q1 q2 q3 h2 f1 f2 f3 f4 f5 vo.1 vo.2 hc hz
theorem apX{v n:Int}{k:TU}{ad:U1}(h:cj g=some (f,#[.pointer (some ad),.int k v,.int k n])) (he:Ext P f (WS (.int k))) (hc:w.cell? ad=some (.int k v)) (hz:w.frozen? ad=false):
  stepG P main g w=.go (fin g (.bool true)) (w.setCell ad (.int k n)) #[⟨.cell ad,false,true⟩,⟨.cell ad,true,true⟩]:=by
 obtain⟨o,aD,lT,h1,h2,h3⟩:=cj.out h;obtain⟨b,a,ops,i,rest,kk,cs,e,q1,q2,q3,q4,q5,q6,_⟩:=ready.out h1;obtain⟨fn,f1,f2,f3,f4,f5⟩:=he.fn;rw[<- q4]at h3;rw[<- q5];refine VG (congrArg (λx=>stepG P main x w) e) ?_;exact ZA q1 q2 q3 h2 f1 f2 f3 f4 f5 (by rw[h3,ZX];exact run_cas_hit_entry hc hz) (by rw[h3,ZX,events_cas_hit_entry hc hz];rfl) (sync_rw ad)
theorem apY{v old n:Int}{k:TU}{ad:U1}(h:cj g=some (f,#[.pointer (some ad),.int k old,.int k n])) (he:Ext P f (WS (.int k))) (hc:w.cell? ad=some (.int k v)) (hz:w.frozen? ad=false) (aG:¬v=old):
  stepG P main g w=.go (fin g (.bool false)) w #[⟨.cell ad,false,true⟩]:=by
 obtain⟨o,aD,lT,h1,h2,h3⟩:=cj.out h;obtain⟨b,a,ops,i,rest,kk,cs,e,q1,q2,q3,q4,q5,q6,_⟩:=ready.out h1;obtain⟨fn,f1,f2,f3,f4,f5⟩:=he.fn;rw[<- q4]at h3;rw[<- q5];refine VG (congrArg (λx=>stepG P main x w) e) ?_;exact ZA q1 q2 q3 h2 f1 f2 f3 f4 f5 (by rw[h3,ZX];exact run_cas_miss_entry hc hz aG) (by rw[h3,ZX,events_cas_miss_entry hc hz aG];rfl) (sync_r ad)
theorem ap2{n:Int}{x y:SO}{ad:U1}(h:cj g=some (f,#[.pointer (some ad),x,y])) (he:Ext P f XN) (hc:w.cell? ad=some (.int .u32 n)) (hz:w.frozen? ad=false):
  stepG P main g w=.go (fin g (.tuple #[])) (w.setCell ad (.int .u32 (ag'.wrap (n+1)))) (semEvents ad):=by
 obtain⟨o,aD,lT,h1,h2,h3⟩:=cj.out h;obtain⟨b,a,ops,i,rest,kk,cs,e,q1,q2,q3,q4,q5,q6,_⟩:=ready.out h1;obtain⟨fn,f1,f2,f3,f4,f5⟩:=he.fn;rw[<- q4]at h3;rw[<- q5];refine VG (congrArg (λx=>stepG P main x w) e) ?_;exact stepG_semrelease q1 q2 q3 h2 f1 f2 f3 f4 f5 (by rw[h3];rfl) hc hz
theorem ap1{n:Int}{x:SO}{ad:U1}(h:cj g=some (f,#[.pointer (some ad),x])) (he:Ext P f WB) (hc:w.cell? ad=some (.int .u32 n)) (hn:n≠0) (hz:w.frozen? ad=false):
  stepG P main g w=.go (fin g (.tuple #[])) (w.setCell ad (.int .u32 (n-1))) (semEvents ad):=by
 obtain⟨o,aD,lT,h1,h2,h3⟩:=cj.out h;obtain⟨b,a,ops,i,rest,kk,cs,e,q1,q2,q3,q4,q5,q6,_⟩:=ready.out h1;obtain⟨fn,f1,f2,f3,f4,f5⟩:=he.fn;rw[<- q4]at h3;rw[<- q5];refine VG (congrArg (λx=>stepG P main x w) e) ?_;exact stepG_semacquire q1 q2 q3 h2 f1 f2 f3 f4 f5 (by rw[h3];rfl) hc hn hz
theorem ap3{x:SO}{ad:U1}(h:cj g=some (f,#[.pointer (some ad),x])) (he:Ext P f WB) (hc:w.cell? ad=some (.int .u32 0)):
  stepG P main g w=.go {g with status:=.blocked} w #[]:=by
 obtain⟨o,aD,lT,h1,h2,h3⟩:=cj.out h;obtain⟨b,a,ops,i,rest,kk,cs,e,q1,q2,q3,q4,q5,q6,_⟩:=ready.out h1;obtain⟨fn,f1,f2,f3,f4,f5⟩:=he.fn;rw[<- q4]at h3;rw[e];exact stepG_semacquire_wait q1 q2 h2 f1 f2 f3 f4 f5 (by rw[h3];rfl) hc
theorem GM{ad:U1}(mk:U1->Mark)(hm:∀ad g,mk ad≠ .extern g)(h:cj g=some (f,#[.pointer (some ad)])) (he:Ext P f (VF mk)):
  stepG P main g w=.go (fin g (.tuple #[])) w #[⟨.mark (mk ad),false,true⟩]:=by
 obtain⟨o,aD,lT,h1,h2,h3⟩:=cj.out h;obtain⟨b,a,ops,i,rest,kk,cs,e,q1,q2,q3,q4,q5,q6,_⟩:=ready.out h1;obtain⟨fn,f1,f2,f3,f4,f5⟩:=he.fn;rw[<- q4]at h3;rw[<- q5];refine VG (congrArg (λx=>stepG P main x w) e) ?_;exact stepG_markAt mk hm q1 q2 q3 h2 f1 f2 f3 f4 f5 (by rw[h3];rfl)
def oJ (g:SH):Option (TypeId×TypeId×SO):=match ready g with
 |some {op:=.convert s d x, .. }=>some (s,d,g.frame.eval x)
 |_=>none
theorem GN{src dst t:TypeId}{ad:U1}{v:SO}(h:oJ g=some (src,dst,.pointer (some ad)))(hs:P.underlying src=some (.pointer t))(hd:P.underlying dst=some .unsafePointer)(aV:(P.info? t).map (λi=>decide (i.size=0))=some false)(hc:w.cell? ad=some v):
  stepG P main g w=.go (fin g (.pointer (some ad))) w #[]:=by
 obtain⟨o,x,h1,h2,h3⟩:∃o x,ready g=some o/\o.op=.convert src dst x/\g.frame.eval x=.pointer (some ad):=by
  unfold oJ at h;split at h
  ·rename_i s d x _ _ _ _ ho;simp only[Tl,UY]at h;obtain⟨rfl,rfl,h⟩:=h;exact⟨_,x,ho,rfl,h⟩
  ·cases h
 obtain⟨b,a,ops,i,rest,kk,cs,e,q1,q2,q3,q4,q5,q6,_⟩:=ready.out h1;rw[<- q4]at h3;rw[<- q5];refine VG (congrArg (λx=>stepG P main x w) e) ?_;have hr:(execOp a.eval o).run P w=.ok (.value (.pointer (some ad))) w:=by
  unfold execOp;simp only[h2,h3];simp[run_convert_to_unsafe hs hd aV hc]
 have cm:(execOp a.eval o).events P w #[]=#[]:=by
  unfold execOp;simp only[h2,h3];simp[events_convert_to_unsafe hs hd aV hc]
 rw[atd q1 q2 q3 hr];unfold listed;rw[cm,Z7]
end
open Go.Proofs
section
variable {P:SJ}
theorem MK{Stop:Nat->SH->Prop}{d:Nat}{g g':SH}{es:Array Uq}(hr:g.status=.running)(hm:∀e∈es,WC e=true)(h:∀w,stepG P false g w=.go g' w es)(hs:∃m,cP P Stop m (deafBehind d es) g'):∃m,cP P Stop m d g:=by
 obtain⟨m,hs⟩:=hs;exact⟨m+1,.inr ⟨hr,g',es,hm,h,hs⟩⟩
theorem GL{main:Bool}{g:SH}{f:TQ}{w:Tp}{m:Mark}(hm:∀g,m≠ .extern g)(h:cj g=some (f,#[])) (he:Ext P f (λ_=>do ab' m;pure W3)):stepG P main g w=.go (fin g (.tuple #[])) w #[⟨.mark m,false,true⟩]:=by
 obtain⟨o,xs,lT,h1,h2,h3⟩:=cj.out h;obtain⟨b,a,ops,i,rest,kk,cs,e,q1,q2,q3,q4,q5,q6,_⟩:=ready.out h1;obtain⟨fn,f1,f2,f3,f4,f5⟩:=he.fn;rw[<- q4]at h3;rw[<- q5];refine VG (congrArg (λx=>stepG P main x w) e) ?_;exact stepG_mark0 m hm q1 q2 q3 h2 f1 f2 f3 f4 f5
theorem acb{main:Bool}{g:SH}{f:TQ}{w:Tp}{v:SO}{vs:Array SO}(h:cj g=some (f,vs))(he:Ext P f (λ_=>pure v)):stepG P main g w=.go (fin g v) w #[]:=by
 obtain⟨o,xs,lT,h1,h2,h3⟩:=cj.out h;obtain⟨b,a,ops,i,rest,kk,cs,e,q1,q2,q3,q4,q5,q6,_⟩:=ready.out h1;obtain⟨fn,f1,f2,f3,f4,f5⟩:=he.fn;rw[<- q5];refine VG (congrArg (λx=>stepG P main x w) e) ?_;exact stepG_entry_pure v q1 q2 q3 h2 f1 f2 f3 f4 f5
theorem WgAt.st{Wg:Nat}{w:Tp}{st sm:Int}(h:WgAt P Wg w st sm):w.cell? ⟨Wg,0,none⟩=some (.int .u64 st)/\w.cell? ⟨Wg,1,none⟩=some (.int .u32 sm)/\w.frozen? ⟨Wg,0,none⟩=false/\w.frozen? ⟨Wg,1,none⟩=false:=by
 unfold WgAt wgBlock at h;refine⟨?_,?_,?_,?_⟩<;>simp[Ux,ZM,h]
theorem LS{m:Mark}(hm:m=.disable\/m=.enable):∀e∈(#[⟨.mark m,false,true⟩]:Array Uq),WC e=true:=by
 intro e he;simp only[TK,SL,S4,or_false]at he;subst he;rcases hm with rfl|rfl<;>rfl
end
set_option maxRecDepth 100000
theorem agp:Ext SC 110 (VF .releaseMerge):=⟨⟨Tryz.f110,by kernel_rfl,by kernel_rfl,by kernel_rfl,by kernel_rfl,by kernel_rfl⟩⟩
theorem It:Ext SC 111 (λ_=>do ab' .disable;pure W3):=⟨⟨Tryz.f111,by kernel_rfl,by kernel_rfl,by kernel_rfl,by kernel_rfl,by kernel_rfl⟩⟩
theorem agq:Ext SC 112 (λ_=>do ab' .enable;pure W3):=⟨⟨Tryz.f112,by kernel_rfl,by kernel_rfl,by kernel_rfl,by kernel_rfl,by kernel_rfl⟩⟩
theorem OV:Ext SC 113 (λ_=>pure (.bool false)):=⟨⟨Tryz.f113,by kernel_rfl,by kernel_rfl,by kernel_rfl,by kernel_rfl,by kernel_rfl⟩⟩
theorem agr:Ext SC 118 (VF .read):=⟨⟨Tryz.f118,by kernel_rfl,by kernel_rfl,by kernel_rfl,by kernel_rfl,by kernel_rfl⟩⟩
theorem ags:Ext SC 122 XN:=⟨⟨Tryz.f122,by kernel_rfl,by kernel_rfl,by kernel_rfl,by kernel_rfl,by kernel_rfl⟩⟩
theorem agt:Ext SC 123 (VF .acquire):=⟨⟨Tryz.f123,by kernel_rfl,by kernel_rfl,by kernel_rfl,by kernel_rfl,by kernel_rfl⟩⟩
theorem agu:Ext SC 126 (VF .write):=⟨⟨Tryz.f126,by kernel_rfl,by kernel_rfl,by kernel_rfl,by kernel_rfl,by kernel_rfl⟩⟩
theorem OW:Ext SC 127 WB:=⟨⟨Tryz.f127,by kernel_rfl,by kernel_rfl,by kernel_rfl,by kernel_rfl,by kernel_rfl⟩⟩
theorem OX:Ext SC 134 (XO (atl .add) .u64 true):=⟨⟨Tryz.f134,by kernel_rfl,by kernel_rfl,by kernel_rfl,by kernel_rfl,by kernel_rfl⟩⟩
theorem Iu:Ext SC 135 (XZ (.int .u64)):=⟨⟨Tryz.f135,by kernel_rfl,by kernel_rfl,by kernel_rfl,by kernel_rfl,by kernel_rfl⟩⟩
theorem agv:Ext SC 136 XP:=⟨⟨Tryz.f136,by kernel_rfl,by kernel_rfl,by kernel_rfl,by kernel_rfl,by kernel_rfl⟩⟩
theorem OY:Ext SC 137 (WS (.int .u64)):=⟨⟨Tryz.f137,by kernel_rfl,by kernel_rfl,by kernel_rfl,by kernel_rfl,by kernel_rfl⟩⟩
theorem acS:SC.underlying 158=some (.pointer 147):=by kernel_rfl
theorem GV:SC.underlying 160=some .unsafePointer:=by kernel_rfl
theorem i182:(SC.info? 147).map (λi=>decide (i.size=0))=some false:=by kernel_rfl
noncomputable def aoT:T9:={(default:T9)with fn:=184,defers:=[],mode:=.panicking [goexitEntry]}
noncomputable def aoP (fn:TQ)(tmps:Array SO)(todo:List WR):T9:={fn,tmps,todo,defers:=[],mode:=.returning,kind:=.deferred,roundOf:=none}
noncomputable def pW (Wg o:Nat):SO:=.pointer (some ⟨Wg,o,none⟩)
section
variable (Wg:Nat)(tmps:Array SO)(todo:List WR)
noncomputable def d0:SH:=G (Frame.enter SC 98 #[pW Wg 0] .deferred) [aoP 97 tmps todo,aoT]
noncomputable def d14:SH:=cC SC false 14 (d0 Wg tmps todo)
noncomputable def d15:SH:=fin (d14 Wg tmps todo) (pW Wg 0)
noncomputable def d16:SH:=fin (d15 Wg tmps todo) (.tuple #[])
noncomputable def d19:SH:=cC SC false 3 (d16 Wg tmps todo)
noncomputable def d20:SH:=fin (d19 Wg tmps todo) (.tuple #[])
noncomputable def d31:SH:=cC SC false 11 (d20 Wg tmps todo)
noncomputable def d32:SH:=fin (d31 Wg tmps todo) (.bool false)
noncomputable def d54:SH:=cC SC false 22 (d32 Wg tmps todo)
noncomputable def d55 (s:Int):SH:=fin (d54 Wg tmps todo) (.int .u64 s)
noncomputable def d158:SH:=cC SC false 103 (d55 Wg tmps todo 1)
noncomputable def d159:SH:=fin (d158 Wg tmps todo) (.int .u64 1)
noncomputable def d179:SH:=cC SC false 20 (d159 Wg tmps todo)
noncomputable def d180:SH:=fin (d179 Wg tmps todo) (.tuple #[])
noncomputable def A7:SH:=cC SC false 27 (d180 Wg tmps todo)
noncomputable def yE:SH:=fin (A7 Wg tmps todo) (.tuple #[])
set_option maxRecDepth 100000
variable (w:Tp)
theorem x0:(fE SC false w 14 (d0 Wg tmps todo),ou SC false 14 (d0 Wg tmps todo),bL (d14 Wg tmps todo),bL (d15 Wg tmps todo))=(fx SC false w 14 (d0 Wg tmps todo),true,true,true):=by kernel_rfl
theorem x14:oJ (d14 Wg tmps todo)=some (158,160,pW Wg 0):=by kernel_rfl
theorem x15:cj (d15 Wg tmps todo)=some (110,#[pW Wg 0]):=by kernel_rfl
theorem G_:(fE SC false w 3 (d16 Wg tmps todo),iL SC false 3 (d16 Wg tmps todo),bL (d19 Wg tmps todo),jK SC false 3 0 (d16 Wg tmps todo))=(fx SC false w 3 (d16 Wg tmps todo),true,true,0):=by kernel_rfl
theorem x19:cj (d19 Wg tmps todo)=some (111,#[]):=by kernel_rfl
theorem Hb:(fE SC false w 11 (d20 Wg tmps todo),iL SC false 11 (d20 Wg tmps todo),bL (d31 Wg tmps todo),jK SC false 11 1 (d20 Wg tmps todo))=(fx SC false w 11 (d20 Wg tmps todo),true,true,1):=by kernel_rfl
theorem x31:cj (d31 Wg tmps todo)=some (113,#[]):=by kernel_rfl
theorem Hd:(fE SC false w 22 (d32 Wg tmps todo),iL SC false 22 (d32 Wg tmps todo),bL (d54 Wg tmps todo),jK SC false 22 1 (d32 Wg tmps todo))=(fx SC false w 22 (d32 Wg tmps todo),true,true,1):=by kernel_rfl
theorem x54:cj (d54 Wg tmps todo)=some (134,#[pW Wg 0,.int .u64 18446744069414584320]):=by kernel_rfl
theorem q30:(fE SC false w 94 (d55 Wg tmps todo (3* 4294967296)),iL SC false 94 (d55 Wg tmps todo (3* 4294967296)),(cC SC false 94 (d55 Wg tmps todo (3* 4294967296))).status,jK SC false 94 1 (d55 Wg tmps todo (3* 4294967296)))=(fx SC false w 94 (d55 Wg tmps todo (3* 4294967296)),true,.finished,0):=by kernel_rfl
theorem q31:(fE SC false w 94 (d55 Wg tmps todo (3* 4294967296+1)),iL SC false 94 (d55 Wg tmps todo (3* 4294967296+1)),(cC SC false 94 (d55 Wg tmps todo (3* 4294967296+1))).status,jK SC false 94 1 (d55 Wg tmps todo (3* 4294967296+1)))=(fx SC false w 94 (d55 Wg tmps todo (3* 4294967296+1)),true,.finished,0):=by kernel_rfl
theorem q20:(fE SC false w 94 (d55 Wg tmps todo (2* 4294967296)),iL SC false 94 (d55 Wg tmps todo (2* 4294967296)),(cC SC false 94 (d55 Wg tmps todo (2* 4294967296))).status,jK SC false 94 1 (d55 Wg tmps todo (2* 4294967296)))=(fx SC false w 94 (d55 Wg tmps todo (2* 4294967296)),true,.finished,0):=by kernel_rfl
theorem q21:(fE SC false w 94 (d55 Wg tmps todo (2* 4294967296+1)),iL SC false 94 (d55 Wg tmps todo (2* 4294967296+1)),(cC SC false 94 (d55 Wg tmps todo (2* 4294967296+1))).status,jK SC false 94 1 (d55 Wg tmps todo (2* 4294967296+1)))=(fx SC false w 94 (d55 Wg tmps todo (2* 4294967296+1)),true,.finished,0):=by kernel_rfl
theorem q10:(fE SC false w 94 (d55 Wg tmps todo (1* 4294967296)),iL SC false 94 (d55 Wg tmps todo (1* 4294967296)),(cC SC false 94 (d55 Wg tmps todo (1* 4294967296))).status,jK SC false 94 1 (d55 Wg tmps todo (1* 4294967296)))=(fx SC false w 94 (d55 Wg tmps todo (1* 4294967296)),true,.finished,0):=by kernel_rfl
theorem q11:(fE SC false w 94 (d55 Wg tmps todo (1* 4294967296+1)),iL SC false 94 (d55 Wg tmps todo (1* 4294967296+1)),(cC SC false 94 (d55 Wg tmps todo (1* 4294967296+1))).status,jK SC false 94 1 (d55 Wg tmps todo (1* 4294967296+1)))=(fx SC false w 94 (d55 Wg tmps todo (1* 4294967296+1)),true,.finished,0):=by kernel_rfl
theorem q00:(fE SC false w 94 (d55 Wg tmps todo 0),iL SC false 94 (d55 Wg tmps todo 0),(cC SC false 94 (d55 Wg tmps todo 0)).status,jK SC false 94 1 (d55 Wg tmps todo 0))=(fx SC false w 94 (d55 Wg tmps todo 0),true,.finished,0):=by kernel_rfl
theorem He:(fE SC false w 103 (d55 Wg tmps todo 1),iL SC false 103 (d55 Wg tmps todo 1),bL (d158 Wg tmps todo),jK SC false 103 1 (d55 Wg tmps todo 1))=(fx SC false w 103 (d55 Wg tmps todo 1),true,true,1):=by kernel_rfl
theorem arC:cj (d158 Wg tmps todo)=some (135,#[pW Wg 0]):=by kernel_rfl
theorem G9:(fE SC false w 20 (d159 Wg tmps todo),iL SC false 20 (d159 Wg tmps todo),bL (d179 Wg tmps todo),jK SC false 20 1 (d159 Wg tmps todo))=(fx SC false w 20 (d159 Wg tmps todo),true,true,1):=by kernel_rfl
theorem arD:cj (d179 Wg tmps todo)=some (136,#[pW Wg 0,.int .u64 0]):=by kernel_rfl
theorem Ha:(fE SC false w 27 (d180 Wg tmps todo),iL SC false 27 (d180 Wg tmps todo),bL (A7 Wg tmps todo),jK SC false 27 1 (d180 Wg tmps todo))=(fx SC false w 27 (d180 Wg tmps todo),true,true,1):=by kernel_rfl
theorem arE:cj (A7 Wg tmps todo)=some (122,#[pW Wg 1,.bool false,.int .i64 0]):=by kernel_rfl
theorem Hc:(fE SC false w 24 (yE Wg tmps todo),iL SC false 24 (yE Wg tmps todo),(cC SC false 24 (yE Wg tmps todo)).status,jK SC false 24 1 (yE Wg tmps todo))=(fx SC false w 24 (yE Wg tmps todo),true,.finished,0):=by kernel_rfl
theorem xm:mayWake SC (A7 Wg tmps todo)=true:=by kernel_rfl
end
section
variable (Wg:Nat)(tmps:Array SO)(todo:List WR)
theorem dU{α β γ δ:Type}{a a':α}{b b':β}{c c':γ}{d d':δ}(h:(a,b,c,d)=(a',b',c',d')):a=a'/\b=b'/\c=c'/\d=d':=by
 simpa[UY]using h
theorem wT{s:Int}(h:∀w,(fE SC false w 94 (d55 Wg tmps todo s),iL SC false 94 (d55 Wg tmps todo s),(cC SC false 94 (d55 Wg tmps todo s)).status,jK SC false 94 1 (d55 Wg tmps todo s))=(fx SC false w 94 (d55 Wg tmps todo s),true,.finished,0)):∃q,Y2 SC q 1 (d55 Wg tmps todo s):=
 Gy 94 1 _ (λw=>(dU (h w)).1) (dU (h default)).2.1 (Mv (dU (h default)).2.2.1 (dU (h default)).2.2.2)
theorem agi:Dt SC Wg 1 (A7 Wg tmps todo):=by
 refine⟨rfl,bL.out (dU (Ha Wg tmps todo default)).2.2.1,xm Wg tmps todo,yE Wg tmps todo,λw hw=> ?_,?_⟩
 ·exact ap2 (n:=0) (arE Wg tmps todo) ags hw.st.2.1 hw.st.2.2.2
 ·exact Gy 24 1 _ (λw=>(dU (Hc Wg tmps todo w)).1) (dU (Hc Wg tmps todo default)).2.1 (Mv (dU (Hc Wg tmps todo default)).2.2.1 (dU (Hc Wg tmps todo default)).2.2.2)
theorem agj:Du SC Wg 1 (d179 Wg tmps todo):=by
 refine⟨rfl,bL.out (dU (G9 Wg tmps todo default)).2.2.1,d180 Wg tmps todo,λw hw=> ?_,?_⟩
 ·exact ap4 (arD Wg tmps todo) agv hw.st.1 hw.st.2.2.1
 ·refine wh 27 1 _ (λw=>(dU (Ha Wg tmps todo w)).1) (dU (Ha Wg tmps todo default)).2.1 ?_;rw[(dU (Ha Wg tmps todo default)).2.2.2];exact⟨0,agi Wg tmps todo⟩
theorem agh:Ds SC Wg 1 (d158 Wg tmps todo):=by
 refine⟨rfl,bL.out (dU (He Wg tmps todo default)).2.2.1,d159 Wg tmps todo,λw hw=> ?_,?_⟩
 ·exact MO (arC Wg tmps todo) Iu hw.st.1
 ·refine wh 20 1 _ (λw=>(dU (G9 Wg tmps todo w)).1) (dU (G9 Wg tmps todo default)).2.1 ?_;rw[(dU (G9 Wg tmps todo default)).2.2.2];exact⟨0,agj Wg tmps todo⟩
theorem age:Ap SC Wg 1 (d54 Wg tmps todo):=by
 refine⟨rfl,bL.out (dU (Hd Wg tmps todo default)).2.2.1,λv wt un hv=>⟨d55 Wg tmps todo ((v:Int)* KK+wt),λw hw=> ?_,λh=> ?_,λh=> ?_⟩⟩
 ·have e:TA.wrap ((((v+1:Nat):Int)* KK+wt)+18446744069414584320)=(v:Int)* KK+wt:=by
   have h1:TA.bits=64:=rfl;have h2:TA.signed=false:=rfl;unfold W_ KK;rw[h1,h2];simp;omega
  have:=aca (P:=SC) (main:=false) (w:=w) (x54 Wg tmps todo) OX hw.st.1 hw.st.2.2.1;rw[e]at this;exact this
 ·obtain⟨rfl,rfl⟩:=h;refine wh 103 1 _ (λw=>(dU (He Wg tmps todo w)).1) (dU (He Wg tmps todo default)).2.1 ?_;have e:=(dU (He Wg tmps todo default)).2.2.2;exact⟨0,by rw[show (((0:Nat):Int)* KK+((1:Nat):Int))=1 from rfl,e];exact agh Wg tmps todo⟩
 ·have hv4:v=0\/v=1\/v=2\/v=3:=by omega
  have gY:wt=0\/wt=1:=by omega
  rcases hv4 with rfl|rfl|rfl|rfl<;>rcases gY with rfl|rfl
  ·exact wT Wg tmps todo (q00 Wg tmps todo)
  ·exact absurd ⟨rfl,rfl⟩ h
  ·exact wT Wg tmps todo (q10 Wg tmps todo)
  ·exact wT Wg tmps todo (q11 Wg tmps todo)
  ·exact wT Wg tmps todo (q20 Wg tmps todo)
  ·exact wT Wg tmps todo (q21 Wg tmps todo)
  ·exact wT Wg tmps todo (q30 Wg tmps todo)
  ·exact wT Wg tmps todo (q31 Wg tmps todo)
theorem agf:Dz SC Wg (d15 Wg tmps todo):=by
 refine⟨bL.out (dU (x0 Wg tmps todo default)).2.2.2,d16 Wg tmps todo,λw=>GM .releaseMerge (λ_ _ h=>by cases h) (x15 Wg tmps todo) agp,?_⟩;refine wh 3 0 _ (λw=>(dU (G_ Wg tmps todo w)).1) (dU (G_ Wg tmps todo default)).2.1 ?_;rw[(dU (G_ Wg tmps todo default)).2.2.2];refine MK (g:=d19 Wg tmps todo) (g':=d20 Wg tmps todo) (bL.out (dU (G_ Wg tmps todo default)).2.2.1) (LS (.inl rfl)) (λw=>GL (λ_ h=>by cases h) (x19 Wg tmps todo) It) ?_;refine wh 11 1 (d20 Wg tmps todo) (λw=>(dU (Hb Wg tmps todo w)).1) (dU (Hb Wg tmps todo default)).2.1 ?_;rw[(dU (Hb Wg tmps todo default)).2.2.2];refine MK (es:=#[]) (g:=d31 Wg tmps todo) (g':=d32 Wg tmps todo) (bL.out (dU (Hb Wg tmps todo default)).2.2.1) (by simp) (λw=>acb (x31 Wg tmps todo) OV) ?_;refine wh 22 1 (d32 Wg tmps todo) (λw=>(dU (Hd Wg tmps todo w)).1) (dU (Hd Wg tmps todo default)).2.1 ?_;rw[(dU (Hd Wg tmps todo default)).2.2.2];exact⟨0,age Wg tmps todo⟩
theorem agk{J:View->SH->Prop}(C:yd SC false J){V:View}{c:Nat}(hr:V.role=.work c Wg [])(hd:V.deaf=0):J V (d0 Wg tmps todo):=by
 have C':Closed false SC false J:={C with more:=λh=>by cases h};have hx:=dU (x0 Wg tmps todo default);refine sT C' 14 _ (λw=>(dU (x0 Wg tmps todo w)).1) hx.2.1 ?_;refine C.slip V _ (d15 Wg tmps todo) c Wg hr (bL.out hx.2.2.1) (λw st hw hW=> ?_) (C.done V _ c Wg hr hd (agf Wg tmps todo));exact GN (x14 Wg tmps todo) acS GV i182 hW.st.1
end
section
variable (Wg:Nat)(cs:List T9)(main:Bool)
noncomputable def a0:SH:=G (Frame.enter SC 96 #[pW Wg 0,.int .i64 1] .normal) cs
noncomputable def DN:SH:=cC SC main 12 (a0 Wg cs)
noncomputable def AL:SH:=fin (DN Wg cs main) (.tuple #[])
noncomputable def DO:SH:=cC SC main 11 (AL Wg cs main)
noncomputable def AN:SH:=fin (DO Wg cs main) (.bool false)
noncomputable def DR:SH:=cC SC main 22 (AN Wg cs main)
noncomputable def mV (s:Int):SH:=fin (DR Wg cs main) (.int .u64 s)
noncomputable def mU (s:Int):SH:=cC SC main 87 (mV Wg cs main s)
noncomputable def HE:SH:=cC SC main 52 (mV Wg cs main 4294967296)
noncomputable def AJ:SH:=fin (HE Wg cs main) (pW Wg 1)
noncomputable def AK:SH:=fin (AJ Wg cs main) (.tuple #[])
noncomputable def AM:SH:=cC SC main 39 (AK Wg cs main)
set_option maxRecDepth 100000
variable (w:Tp)
theorem y0:(fE SC main w 12 (a0 Wg cs),ou SC main 12 (a0 Wg cs),bL (DN Wg cs main),cj (DN Wg cs main))=(fx SC main w 12 (a0 Wg cs),true,true,some (111,#[])):=by kernel_rfl
theorem y13:(fE SC main w 11 (AL Wg cs main),ou SC main 11 (AL Wg cs main),bL (DO Wg cs main),cj (DO Wg cs main))=(fx SC main w 11 (AL Wg cs main),true,true,some (113,#[])):=by kernel_rfl
theorem y25:(fE SC main w 22 (AN Wg cs main),ou SC main 22 (AN Wg cs main),bL (DR Wg cs main),cj (DR Wg cs main))=(fx SC main w 22 (AN Wg cs main),true,true,some (134,#[pW Wg 0,.int .u64 4294967296])):=by kernel_rfl
noncomputable def xR (g:SH):Zz×U5×Nat×Xb×List UV×Bool:=(.go (gp SC main g) w #[⟨.mark .enable,false,true⟩],(gp SC main g).frame.mode,(gp SC main g).frame.fn,(gp SC main g).frame.kind,(gp SC main g).frame.defers,bL (gp SC main g))
theorem Nh:(fE SC main w 87 (mV Wg cs main (2* 4294967296)),ou SC main 87 (mV Wg cs main (2* 4294967296)),bL (mU Wg cs main (2* 4294967296)),xR main w (mU Wg cs main (2* 4294967296)))=(fx SC main w 87 (mV Wg cs main (2* 4294967296)),true,true,stepG SC main (mU Wg cs main (2* 4294967296)) w,.returning,96,.normal,[],true):=by kernel_rfl
theorem Ni:(fE SC main w 87 (mV Wg cs main (3* 4294967296)),ou SC main 87 (mV Wg cs main (3* 4294967296)),bL (mU Wg cs main (3* 4294967296)),xR main w (mU Wg cs main (3* 4294967296)))=(fx SC main w 87 (mV Wg cs main (3* 4294967296)),true,true,stepG SC main (mU Wg cs main (3* 4294967296)) w,.returning,96,.normal,[],true):=by kernel_rfl
theorem Nj:(fE SC main w 87 (mV Wg cs main (4* 4294967296)),ou SC main 87 (mV Wg cs main (4* 4294967296)),bL (mU Wg cs main (4* 4294967296)),xR main w (mU Wg cs main (4* 4294967296)))=(fx SC main w 87 (mV Wg cs main (4* 4294967296)),true,true,stepG SC main (mU Wg cs main (4* 4294967296)) w,.returning,96,.normal,[],true):=by kernel_rfl
theorem ac6:(fE SC main w 52 (mV Wg cs main 4294967296),ou SC main 52 (mV Wg cs main 4294967296),bL (HE Wg cs main),oJ (HE Wg cs main))=(fx SC main w 52 (mV Wg cs main 4294967296),true,true,some (165,160,pW Wg 1)):=by kernel_rfl
theorem arF:cj (AJ Wg cs main)=some (118,#[pW Wg 1]):=by kernel_rfl
theorem Ng:(fE SC main w 39 (AK Wg cs main),ou SC main 39 (AK Wg cs main),bL (AM Wg cs main),xR main w (AM Wg cs main))=(fx SC main w 39 (AK Wg cs main),true,true,stepG SC main (AM Wg cs main) w,.returning,96,.normal,[],true):=by kernel_rfl
theorem yr1:bL (AJ Wg cs main)=true:=by kernel_rfl
theorem GW:∃t,SC.underlying 165=some (.pointer t)/\(SC.info? t).map (λi=>decide (i.size=0))=some false:=⟨145,by kernel_rfl,by kernel_rfl⟩
theorem ahj:∃fn,SC.funcs[96]?=some fn/\fn.results=#[]:=⟨Tryz.f96,by kernel_rfl,by kernel_rfl⟩
end
section
variable {P:SJ}{V:View}
theorem aqc{w:Tp}{b o:Nat}{v:SO}{c:Array SO}{el:TypeId}(hw:Sat V w)(ho:V.own b=some (.cells c el (0,0)))(cx:V.ab b o=none)(JS:V.role.chan≠some b):
  da V w (V.upd b (.cells (c.setIfInBounds o v) el (0,0))) (w.setCell ⟨b,o,none⟩ v) #[⟨.cell ⟨b,o,none⟩,false,true⟩,⟨.cell ⟨b,o,none⟩,true,true⟩]:=by
 refine⟨hw.acW ho cx,rfl,rfl,rfl,by rw[C4];exact SP _,λb' dB e=>vE _ _ _ (λx=> ?_),λb' dB e=> ?_,λ_ _ _ e=>e,λ_ _ _ e=> .inl e,λev cm=> ?_,by simp[deafBehind];rfl,rfl,λc' x bh e=>by rw[<- e];simp only[View.upd,ite_eq_right_iff];intro x';subst x';exact absurd bh JS,λev cm=> ?_⟩
 ·have x':b=b':=x;subst x';rw[ho]at e;cases e
 ·have:b'≠b:=by intro x;subst x;rw[ho]at e;cases e
  simp only[View.upd,this,if_false];exact e
 ·simp only[TK,SL,S4,or_false]at cm;rcases cm with rfl|rfl
  ·exact⟨.inr (.inl (by show V.own b≠none;rw[ho];simp)),.inl rfl⟩
  ·exact⟨.inr ⟨by show V.own b≠none;rw[ho];simp,cx⟩,.inl rfl⟩
 ·simp only[TK,SL,S4,or_false]at cm;rcases cm with rfl|rfl<;>(show b<_;rw[C4];exact hw.lt ho)
theorem Closed.said{lv main:Bool}{J:View->SH->Prop}(C:Closed lv P main J){g g':SH}{a:U1}(hr:g.status=.running)(ha:V.own a.block≠none/\V.ab a.block a.off=none)(h:∀w,stepG P main g w=.go g' w #[⟨.mark (.read a),false,true⟩]) (hJ:J V g'):J V g:=by
 refine C.step _ _ hr λw hw=> ?_;have hs:=apw (P:=P) (V:=V) (k:=(.pure ():Sem Unit)) (K:=λ_ V'=>V'=V) (Kp:=λ_ _=>False) (m:=.read a) (.inl rfl) ha (cF rfl);obtain⟨es,w',V',k1,k2,k3⟩:=hs.runs hw;rcases k3 with⟨x,k3,rfl⟩|⟨_,_,hx⟩
 ·have e1:Yf () w=Yf x w':=k3;have e2:es=#[⟨.mark (.read a),false,true⟩]:=k2.symm;cases e1;subst e2;refine⟨g',w,_,_,h w,?_,hJ⟩;rwa [sW (by simp)]at k1
 ·exact hx.elim
end
section
variable (Wg:Nat)(cs:List T9)(main:Bool)
set_option maxRecDepth 100000
theorem yG2:gp SC main (mU Wg cs main (2* 4294967296))=G (gp SC main (mU Wg cs main (2* 4294967296))).frame cs:=by kernel_rfl
theorem yG3:gp SC main (mU Wg cs main (3* 4294967296))=G (gp SC main (mU Wg cs main (3* 4294967296))).frame cs:=by kernel_rfl
theorem yG4:gp SC main (mU Wg cs main (4* 4294967296))=G (gp SC main (mU Wg cs main (4* 4294967296))).frame cs:=by kernel_rfl
theorem yG1:gp SC main (AM Wg cs main)=G (gp SC main (AM Wg cs main)).frame cs:=by kernel_rfl
end
theorem kE{α β γ δ:Type}{a a':α}{b b':β}{c c':γ}{d d':δ}(h:(a,b,c,d)=(a',b',c',d')):a=a'/\b=b'/\c=c'/\d=d':=by
 simpa[UY]using h
section
variable {lv main:Bool}{J:View->SH->Prop}{V:View}{cs:List T9}
theorem DV(C:Closed lv SC main J){g:SH}{U:View}(bH:bL g=true)(h:∀w,(Go.Gg.xR main w g)=(stepG SC main g w,.returning,96,.normal,[],true))(hG:gp SC main g=G (gp SC main g).frame cs)
  (hU:U={V with deaf:=deafBehind V.deaf #[⟨.mark .enable,false,true⟩]}) (hJ:∀fr,Leaves SC fr 96 .normal (.ret (.tuple #[])) U->J U (G fr cs)):J V g:=by
 refine C.mute (.inr rfl) (bL.out bH) (λw=> ?_) (g':=gp SC main g) ?_
 ·have:=h w;simp only[Go.Gg.xR,UY]at this;exact this.1.symm
 ·have:=h default;simp only[Go.Gg.xR,UY]at this;obtain⟨_,h1,h2,h3,h4,_⟩:=this;rw[hG,<- hU];refine hJ _ ⟨h2,h4,h3,?_⟩;obtain⟨fn,hf,hr⟩:=ahj;exact⟨fn,hf,h1,results_none hr⟩
theorem aec{n Wg:Nat}{sm:TypeId}(hn:n<4)(hW:V.own Wg=some (.cells #[.int .u64 ((n:Int)* KK),.int .u32 0] sm (0,0))) (hi:∀o,V.ab Wg o=none) (hc:V.role.chan≠some Wg) (hd:V.deaf=0):
  Body lv SC 96 #[pW Wg 0,.int .i64 1] .normal V (λo V'=>o=.ret (.tuple #[])/\V'=V.upd Wg (.cells #[.int .u64 (((n+1:Nat):Int)* KK),.int .u32 0] sm (0,0))):=by
 intro main J C cs hJ;have hA:=kE (y0 Wg cs main default);show J V (a0 Wg cs);refine sT C 12 _ (λw=>(kE (y0 Wg cs main w)).1) hA.2.1 ?_;refine C.mute (g:=DN Wg cs main) (g':=AL Wg cs main) (.inl rfl) (bL.out hA.2.2.1) (λw=>GL (λ_ h=>by cases h) hA.2.2.2 It) ?_;have hB:=kE (y13 Wg cs main default);refine sT C 11 _ (λw=>(kE (y13 Wg cs main w)).1) hB.2.1 ?_;refine C.idle (g:=DO Wg cs main) (g':=AN Wg cs main) (bL.out hB.2.2.1) (λw=>acb hB.2.2.2 OV) ?_;have hC:=kE (y25 Wg cs main default);refine sT C 22 _ (λw=>(kE (y25 Wg cs main w)).1) hC.2.1 ?_;let V1:View:={V with deaf:=deafBehind V.deaf #[⟨.mark .disable,false,true⟩]};let V2:View:=V1.upd Wg (.cells #[.int .u64 (((n+1:Nat):Int)* KK),.int .u32 0] sm (0,0));have yQ:{V2 with deaf:=deafBehind V2.deaf #[⟨.mark .enable,false,true⟩]}=V.upd Wg (.cells #[.int .u64 (((n+1:Nat):Int)* KK),.int .u32 0] sm (0,0)):=by
  obtain⟨i,o,d,r⟩:=V;have:d=0:=hd;subst this;rfl
 show J V1 (DR Wg cs main);refine C.step _ _ (bL.out hC.2.2.1) λw hw=> ?_;have hh:=hw.own Wg _ hW;have di:w.cell? ⟨Wg,0,none⟩=some (.int .u64 ((n:Int)* KK)):=by simp[Ux,hh]
 have iu:w.frozen? ⟨Wg,0,none⟩=false:=by simp[ZM,hh]
 have hs:=aca (P:=SC) (main:=main) (w:=w) hC.2.2.2 OX di iu;have e:TA.wrap (((n:Int)* KK)+4294967296)=((n+1:Nat):Int)* KK:=by
  have h1:TA.bits=64:=rfl;have h2:TA.signed=false:=rfl;unfold W_ KK;rw[h1,h2];simp;omega
 rw[e]at hs;refine⟨mV Wg cs main (((n+1:Nat):Int)* KK),_,_,V2,hs,?_,?_⟩
 ·exact aqc (V:=V1) hw hW (hi 0) hc
 have Ri:n=0\/n=1\/n=2\/n=3:=by omega
 rcases Ri with rfl|rfl|rfl|rfl
 ·have hD:=kE (ac6 Wg cs main default);refine sT C 52 _ (λw=>(kE (ac6 Wg cs main w)).1) hD.2.1 ?_;obtain⟨t,ht1,Fy⟩:=GW;have Qc:V2.own Wg=some (.cells #[.int .u64 (((0+1:Nat):Int)* KK),.int .u32 0] sm (0,0)):=by simp[V2,View.upd]
  refine C.step _ _ (bL.out hD.2.2.1) λw hw=>⟨AJ Wg cs main,w,#[],V2,?_,.idle hw,?_⟩
  ·have hh:=hw.own Wg _ Qc;exact GN hD.2.2.2 ht1 GV Fy (v:=.int .u32 0) (by simp[Ux,hh])
  refine C.said (g:=AJ Wg cs main) (g':=AK Wg cs main) (a:=⟨Wg,1,none⟩) (bL.out (yr1 Wg cs main)) ⟨by show V2.own Wg≠none;rw[Qc];simp,hi 1⟩ (λw=>GM .read (λ_ _ h=>by cases h) (arF Wg cs main) agr) ?_;have hE:=kE (Ng Wg cs main default);refine sT C 39 _ (λw=>(kE (Ng Wg cs main w)).1) hE.2.1 ?_;exact DV C hE.2.2.1 (λw=>(kE (Ng Wg cs main w)).2.2.2) (yG1 Wg cs main) yQ.symm λfr hl=>hJ _ _ fr ⟨rfl,rfl⟩ hl
 ·have hE:=kE (Nh Wg cs main default);refine sT C 87 _ (λw=>(kE (Nh Wg cs main w)).1) hE.2.1 ?_;exact DV C hE.2.2.1 (λw=>(kE (Nh Wg cs main w)).2.2.2) (yG2 Wg cs main) yQ.symm λfr hl=>hJ _ _ fr ⟨rfl,rfl⟩ hl
 ·have hE:=kE (Ni Wg cs main default);refine sT C 87 _ (λw=>(kE (Ni Wg cs main w)).1) hE.2.1 ?_;exact DV C hE.2.2.1 (λw=>(kE (Ni Wg cs main w)).2.2.2) (yG3 Wg cs main) yQ.symm λfr hl=>hJ _ _ fr ⟨rfl,rfl⟩ hl
 ·have hE:=kE (Nj Wg cs main default);refine sT C 87 _ (λw=>(kE (Nj Wg cs main w)).1) hE.2.1 ?_;exact DV C hE.2.2.1 (λw=>(kE (Nj Wg cs main w)).2.2.2) (yG4 Wg cs main) yQ.symm λfr hl=>hJ _ _ fr ⟨rfl,rfl⟩ hl
end
section
variable {P:SJ}{main:Bool}{g:SH}{w:Tp}
def uz (g:SH):Option (TypeId×SO):=match ready g with
 |some {op:=.load t x, .. }=>some (t,g.frame.eval x)
 |_=>none
theorem ap0{t:TypeId}{d:TypeDesc}{ad:U1}{v:SO}(h:uz g=some (t,.pointer (some ad)))(ht:P.underlying t=some d)(hd:TypeDesc.agg d=false)(hq:(P.funcs[g.frame.fn]?).any (·.norace)=false)(hc:w.cell? ad=some v):
  stepG P main g w=.go (fin g v) w #[⟨.cell ad,false,false⟩]:=by
 obtain⟨o,x,h1,h2,h3⟩:∃o x,ready g=some o/\o.op=.load t x/\g.frame.eval x=.pointer (some ad):=by
  unfold uz at h;split at h
  ·rename_i s x _ _ _ _ ho;simp only[Tl,UY]at h;obtain⟨rfl,h⟩:=h;exact⟨_,x,ho,rfl,h⟩
  ·cases h
 obtain⟨b,a,ops,i,rest,kk,cs,e,q1,q2,q3,q4,q5,q6,_⟩:=ready.out h1;rw[<- q4]at h3;rw[<- q5];refine VG (congrArg (λx=>stepG P main x w) e) ?_;have e1:execOp a.eval o=(do let v<- Xy t (.pointer (some ad));pure (.value v)):=by
  unfold execOp;simp only[h2,h3]
 have e2:(isAgg t:Sem Bool).run P w=.ok false w/\∀es,(isAgg t:Sem Bool).events P w es=es:=by
  unfold isAgg Go.underlying;cases d<;>first
   |(exact(Bool.noConfusion hd))
   |(constructor<;>simp[go_sem,ht])
 have hr:(execOp a.eval o).run P w=.ok (.value v) w:=by
  rw[e1];simp[Xy,U9,loadVar,e2.1,hc]
 have cm:(execOp a.eval o).events P w #[]=#[⟨.cell ad,false,false⟩]:=by
  rw[e1];simp[Xy,U9,loadVar,e2.1,e2.2,hc]
 rw[atd q1 q2 q3 hr];unfold listed;rw[cm,seen_eq (by rw[q6];exact hq) (by intro e he f;simp only[TK,SL,S4,or_false]at he;rw[he];simp)]
def wR (g:SH):Option SO:=match ready g with
 |some {op:=.call {callee:=.builtin .close,args, .. }, .. }=>match args.toList with
  |[x]=>some (g.frame.eval x)
  |_=>none
 |_=>none
theorem apZ{c cap s r:Nat}{D7:Array SO}{tm:Bool}(h:wR g=some (.chan (some c)))(hq:(P.funcs[g.frame.fn]?).any (·.norace)=false)(hc:w.heap[c]?=some (.chan cap D7 false s r tm)):
  stepG P main g w=.go (fin g (.tuple #[])) {w with heap:=w.heap.setIfInBounds c (.chan cap D7 true s r tm)} #[⟨.obj c,false,true⟩,⟨.obj c,true,true⟩]:=by
 obtain⟨o,x,lT,h1,h2,h3⟩:∃o x lT,ready g=some o/\o.op=.call {callee:=.builtin .close,args:=#[x],argTypes:=lT}/\g.frame.eval x=.chan (some c):=by
  unfold wR at h;split at h
  ·rename_i dst xs lT ty pos af gd ho;split at h
   ·rename_i x hx;have:xs=#[x]:=(by apply Vz;simpa using hx);subst this;exact⟨_,x,_,ho,rfl,by simpa using h⟩
   ·cases h
  ·cases h
 obtain⟨b,a,ops,i,rest,kk,cs,e,q1,q2,q3,q4,q5,q6,_⟩:=ready.out h1;rw[<- q4]at h3;rw[<- q5];refine VG (congrArg (λx=>stepG P main x w) e) ?_;exact stepG_close q1 q2 q3 h2 h3 hc (by rw[q6];exact hq)
end
section
variable (Wg fc c:Nat)
noncomputable def e0:SH:=born SC ⟨.fn (.func 100) #[pW Wg 0,pW fc 0],#[]⟩
noncomputable def e7:SH:=cC SC false 7 (e0 Wg fc)
noncomputable def e8:SH:=fin (e7 Wg fc) (.tuple #[])
noncomputable def e27:SH:=cC SC false 19 (e8 Wg fc)
noncomputable def f76 (h:SH)(v:Int):SH:=cC SC false 48 (fin h (.int .u64 v))
noncomputable def LN (b:SH):SH:=cC SC false 25 (fin b (.bool false))
noncomputable def f96 (b:SH):SH:=cC SC false 19 (fin b (.bool true))
noncomputable def f97 (b:SH):SH:=fin (f96 b) (pW Wg 1)
noncomputable def f121 (b:SH):SH:=cC SC false 23 (fin (f97 Wg b) (.tuple #[]))
noncomputable def f138 (b:SH):SH:=cC SC false 16 (fin (f121 Wg b) (.tuple #[]))
noncomputable def f150 (b:SH):SH:=cC SC false 11 (fin (f138 Wg b) (.int .u64 0))
noncomputable def f154 (b:SH):SH:=cC SC false 3 (fin (f150 Wg b) (.tuple #[]))
noncomputable def f155 (b:SH):SH:=fin (f154 Wg b) (pW Wg 0)
noncomputable def f168 (b:SH):SH:=cC SC false 12 (fin (f155 Wg b) (.tuple #[]))
noncomputable def f169 (b:SH):SH:=fin (f168 Wg b) (.chan (some c))
noncomputable def f170 (b:SH):SH:=fin (f169 Wg c b) (.tuple #[])
noncomputable def yc (h:SH):SH:=cC SC false 31 (fin h (.int .u64 0))
noncomputable def Nk (h:SH):SH:=cC SC false 3 (fin (yc h) (.tuple #[]))
noncomputable def uN (h:SH):SH:=fin (Nk h) (pW Wg 0)
noncomputable def Dn (h:SH):SH:=cC SC false 22 (fin (uN Wg h) (.tuple #[]))
noncomputable def uO (h:SH):SH:=fin (Dn Wg h) (.chan (some c))
noncomputable def Hj (h:SH):SH:=fin (uO Wg c h) (.tuple #[])
noncomputable def hd:List Int->SH
 |[]=>e27 Wg fc
 |v::l=>LN (f76 (hd l) v)
noncomputable def bd (l:List Int)(v:Int):SH:=f76 (hd Wg fc l) v
noncomputable def fi (w:Tp)(n d:Nat)(g:SH):List Zz×Bool×Bool×Nat:=(fE SC false w n g,iL SC false n g,bL (cC SC false n g),jK SC false n d g)
noncomputable def fh (w:Tp)(n d:Nat)(g:SH):List Zz×Bool×Bool×Nat:=(fx SC false w n g,true,true,d)
noncomputable def yI (w:Tp)(n:Nat)(g:SH):List Zz×Bool×GoStatus×Nat:=(fE SC false w n g,iL SC false n g,(cC SC false n g).status,jK SC false n 0 g)
noncomputable def yH (w:Tp)(n:Nat)(g:SH):List Zz×Bool×GoStatus×Nat:=(fx SC false w n g,true,.finished,0)
noncomputable def qe (g:SH):Bool:= !(SC.funcs[g.frame.fn]?).any (·.norace)
noncomputable def zT (w:Tp)(h:SH):=(cj h,bL h,fi w 31 1 (fin h (.int .u64 0)),cj (yc h),fi w 3 0 (fin (yc h) (.tuple #[])),oJ (Nk h),cj (uN Wg h),bL (uN Wg h),fi w 22 0 (fin (uN Wg h) (.tuple #[])),uz (Dn Wg h),qe (Dn Wg h),wR (uO Wg c h),qe (uO Wg c h),bL (uO Wg c h),mayWake SC (uO Wg c h),yI w 4 (Hj Wg c h))
noncomputable def zR (w:Tp)(h:SH):=(some ((135:TQ),#[pW Wg 0]),true,fh w 31 1 (fin h (.int .u64 0)),some ((112:TQ),(#[]:Array SO)),fh w 3 0 (fin (yc h) (.tuple #[])),some ((158:TypeId),(160:TypeId),pW Wg 0),some ((123:TQ),#[pW Wg 0]),true,fh w 22 0 (fin (uN Wg h) (.tuple #[])),some ((139:TypeId),pW fc 0),true,some (XM (some c)),true,true,true,yH w 4 (Hj Wg c h))
noncomputable def fT (w:Tp)(b:SH):=(cj b,bL b,fi w 25 1 (fin b (.bool false)),fi w 19 1 (fin b (.bool true)),oJ (f96 b),cj (f97 Wg b),bL (f97 Wg b),fi w 23 1 (fin (f97 Wg b) (.tuple #[])),cj (f121 Wg b),(f121 Wg b).offers,fi w 16 1 (fin (f121 Wg b) (.tuple #[])),cj (f138 Wg b),fi w 11 1 (fin (f138 Wg b) (.int .u64 0)),cj (f150 Wg b),fi w 3 0 (fin (f150 Wg b) (.tuple #[])),oJ (f154 Wg b),cj (f155 Wg b),bL (f155 Wg b),fi w 12 0 (fin (f155 Wg b) (.tuple #[])),uz (f168 Wg b),qe (f168 Wg b),wR (f169 Wg c b),qe (f169 Wg c b),bL (f169 Wg c b),mayWake SC (f169 Wg c b),yI w 4 (f170 Wg c b))
noncomputable def fR (w:Tp)(b:SH)(v:Int):=(some ((137:TQ),#[pW Wg 0,.int .u64 v,.int .u64 (v+1)]),true,fh w 25 1 (fin b (.bool false)),fh w 19 1 (fin b (.bool true)),some ((165:TypeId),(160:TypeId),pW Wg 1),some ((126:TQ),#[pW Wg 1]),true,fh w 23 1 (fin (f97 Wg b) (.tuple #[])),some ((127:TQ),#[pW Wg 1,.bool false]),(none:Option (Array CommCase×CommShape)),fh w 16 1 (fin (f121 Wg b) (.tuple #[])),some ((135:TQ),#[pW Wg 0]),fh w 11 1 (fin (f138 Wg b) (.int .u64 0)),some ((112:TQ),(#[]:Array SO)),fh w 3 0 (fin (f150 Wg b) (.tuple #[])),some ((158:TypeId),(160:TypeId),pW Wg 0),some ((123:TQ),#[pW Wg 0]),true,fh w 12 0 (fin (f155 Wg b) (.tuple #[])),some ((139:TypeId),pW fc 0),true,some (XM (some c)),true,true,true,yH w 4 (f170 Wg c b))
set_option maxRecDepth 100000
theorem c0(w:Tp):(fi w 7 0 (e0 Wg fc),cj (e7 Wg fc),fi w 19 1 (e8 Wg fc))=(fh w 7 0 (e0 Wg fc),some ((111:TQ),(#[]:Array SO)),fh w 19 1 (e8 Wg fc)):=by kernel_rfl
noncomputable def pT (w:Tp)(l:List Int)(v:Int):=(fi w 48 1 (fin (hd Wg fc l) (.int .u64 v)),fT Wg c w (bd Wg fc l v),zT Wg c w (hd Wg fc (v::l)))
noncomputable def pR (w:Tp)(l:List Int)(v:Int):=(fh w 48 1 (fin (hd Wg fc l) (.int .u64 v)),fR Wg fc c w (bd Wg fc l v) v,zR Wg fc c w (hd Wg fc (v::l)))
theorem zz(w:Tp):zT Wg c w (hd Wg fc [])=zR Wg fc c w (hd Wg fc []):=by kernel_rfl
theorem Mq(w:Tp):pT Wg fc c w [] (4* 4294967296)=pR Wg fc c w [] (4* 4294967296):=by kernel_rfl
theorem Mp(w:Tp):pT Wg fc c w [4* 4294967296] (3* 4294967296)=pR Wg fc c w [4* 4294967296] (3* 4294967296):=by kernel_rfl
theorem Mm(w:Tp):pT Wg fc c w [3* 4294967296,4* 4294967296] (2* 4294967296)=pR Wg fc c w [3* 4294967296,4* 4294967296] (2* 4294967296):=by kernel_rfl
theorem Mf(w:Tp):pT Wg fc c w [2* 4294967296,3* 4294967296,4* 4294967296] (1* 4294967296)=pR Wg fc c w [2* 4294967296,3* 4294967296,4* 4294967296] (1* 4294967296):=by kernel_rfl
theorem Mi(w:Tp):pT Wg fc c w [3* 4294967296,4* 4294967296] (1* 4294967296)=pR Wg fc c w [3* 4294967296,4* 4294967296] (1* 4294967296):=by kernel_rfl
theorem Mn(w:Tp):pT Wg fc c w [4* 4294967296] (2* 4294967296)=pR Wg fc c w [4* 4294967296] (2* 4294967296):=by kernel_rfl
theorem Mg(w:Tp):pT Wg fc c w [2* 4294967296,4* 4294967296] (1* 4294967296)=pR Wg fc c w [2* 4294967296,4* 4294967296] (1* 4294967296):=by kernel_rfl
theorem Mj(w:Tp):pT Wg fc c w [4* 4294967296] (1* 4294967296)=pR Wg fc c w [4* 4294967296] (1* 4294967296):=by kernel_rfl
theorem Mo(w:Tp):pT Wg fc c w [] (3* 4294967296)=pR Wg fc c w [] (3* 4294967296):=by kernel_rfl
theorem Ml(w:Tp):pT Wg fc c w [3* 4294967296] (2* 4294967296)=pR Wg fc c w [3* 4294967296] (2* 4294967296):=by kernel_rfl
theorem Me(w:Tp):pT Wg fc c w [2* 4294967296,3* 4294967296] (1* 4294967296)=pR Wg fc c w [2* 4294967296,3* 4294967296] (1* 4294967296):=by kernel_rfl
theorem Mh(w:Tp):pT Wg fc c w [3* 4294967296] (1* 4294967296)=pR Wg fc c w [3* 4294967296] (1* 4294967296):=by kernel_rfl
theorem Mk(w:Tp):pT Wg fc c w [] (2* 4294967296)=pR Wg fc c w [] (2* 4294967296):=by kernel_rfl
theorem Md(w:Tp):pT Wg fc c w [2* 4294967296] (1* 4294967296)=pR Wg fc c w [2* 4294967296] (1* 4294967296):=by kernel_rfl
theorem Mc(w:Tp):pT Wg fc c w [] (1* 4294967296)=pR Wg fc c w [] (1* 4294967296):=by kernel_rfl
end
section
variable {P:SJ}{Wg:Nat}{Stop:Nat->SH->Prop}
theorem O3{n d d':Nat}{g:SH}(h:∀w,fi w n d g=fh w n d' g):(∀w,fE SC false w n g=fx SC false w n g)/\iL SC false n g=true/\bL (cC SC false n g)=true/\jK SC false n d g=d':=
 ⟨λw=>(dU (h w)).1,(dU (h default)).2.1,(dU (h default)).2.2.1,(dU (h default)).2.2.2⟩
theorem wW{n d d':Nat}{g:SH}(h:∀w,fi w n d g=fh w n d' g)(hs:∃m,cP SC Stop m d' (cC SC false n g)):∃m,cP SC Stop m d g:=by
 obtain⟨h1,h2,_,h4⟩:=O3 h;exact wh n d g h1 h2 (by rw[h4];exact hs)
theorem IC{n d d':Nat}{g:SH}(h:∀w,fi w n d g=fh w n d' g)(hs:∃m,gR SC Wg Stop m d' (cC SC false n g)):∃m,gR SC Wg Stop m d g:=by
 obtain⟨h1,h2,_,h4⟩:=O3 h;exact ab6 n d g h1 h2 (by rw[h4];exact hs)
theorem agQ{n:Nat}{g:SH}(h:∀w,yI w n g=yH w n g):∃q,Y2 SC q 0 g:=
 Gy n 0 g (λw=>(dU (h w)).1) (dU (h default)).2.1 (Mv (dU (h default)).2.2.1 (dU (h default)).2.2.2)
theorem apK{d:Nat}{g g':SH}{es:Array Uq}(hr:g.status=.running)(hm:∀e∈es,WC e=true)(h:∀w,stepG P false g w=.go g' w es)(hs:∃m,gR P Wg Stop m (deafBehind d es) g'):∃m,gR P Wg Stop m d g:=by
 obtain⟨m,fO⟩:=hs;exact⟨m+1,.inr ⟨hr,g',es,hm,λw _ _ _=>h w,fO⟩⟩
end
set_option maxRecDepth 100000
theorem t173:(SC.underlying 139).map TypeDesc.agg=some false:=by kernel_rfl
theorem Mw{g:SH}{o:Tv}(h:ready g=some o):bL g=true:=by
 obtain⟨_,_,_,_,_,_,_,_,_,_,_,_,_,_,hr⟩:=ready.out h;unfold bL;rw[hr]
theorem yz{g:SH}{f:TQ}{vs:Array SO}(h:cj g=some (f,vs)):bL g=true:=by
 obtain⟨_,_,_,h1,_,_⟩:=cj.out h;exact Mw h1
theorem Ot{g:SH}{s d:TypeId}{v:SO}(h:oJ g=some (s,d,v)):bL g=true:=by
 unfold oJ at h;split at h
 ·rename_i ho;exact Mw ho
 ·cases h
theorem amd{g:SH}{t:TypeId}{v:SO}(h:uz g=some (t,v)):bL g=true:=by
 unfold uz at h;split at h
 ·rename_i ho;exact Mw ho
 ·cases h
section
variable {Wg fc c:Nat}{Im:cq}
theorem ND{n:Nat}{g:SH}(hi:Im fc 0=some (.chan (some c)))(h1:cj g=some (123,#[pW Wg 0])) (h3:∀w,fi w n 0 (fin g (.tuple #[]))=fh w n 0 (fin g (.tuple #[])))
  (h4:uz (cC SC false n (fin g (.tuple #[])))=some (139,pW fc 0)) (h5:qe (cC SC false n (fin g (.tuple #[])))=true)
  (h6:wR (fin (cC SC false n (fin g (.tuple #[]))) (.chan (some c)))=some (.chan (some c))) (h7:qe (fin (cC SC false n (fin g (.tuple #[]))) (.chan (some c)))=true) (h8:bL (fin (cC SC false n (fin g (.tuple #[]))) (.chan (some c)))=true)
  (h9:mayWake SC (fin (cC SC false n (fin g (.tuple #[]))) (.chan (some c)))=true) (h10:∀w,yI w 4 (fin (fin (cC SC false n (fin g (.tuple #[]))) (.chan (some c))) (.tuple #[]))=yH w 4 (fin (fin (cC SC false n (fin g (.tuple #[]))) (.chan (some c))) (.tuple #[]))):tj SC Im c Wg 0 g:=by
 refine⟨rfl,bL.out (yz h1),_,λw=>GM .acquire (λ_ _ h=>by cases h) h1 agt,?_⟩;refine wW h3 ⟨0,rfl,bL.out (amd h4),fc,0,_,_,hi,λw hc=> ?_,0,rfl,bL.out h8,h9,_,λw s hw=> ?_,agQ h10⟩
 ·obtain⟨d,c9,kT⟩:=Tq.1 t173;exact ap0 h4 c9 kT (by simpa[qe]using h5) hc
 ·exact apZ h6 (by simpa[qe]using h7) hw
theorem Sy{n1 n2:Nat}{g:SH}(h1:∀w,fi w n1 1 g=fh w n1 1 g)(h2:cj (cC SC false n1 g)=some (112,#[])) (h3:∀w,fi w n2 0 (fin (cC SC false n1 g) (.tuple #[]))=fh w n2 0 (fin (cC SC false n1 g) (.tuple #[])))
  (h4:oJ (cC SC false n2 (fin (cC SC false n1 g) (.tuple #[])))=some (158,160,pW Wg 0)) (h5:tj SC Im c Wg 0 (fin (cC SC false n2 (fin (cC SC false n1 g) (.tuple #[]))) (pW Wg 0))):∃n,gR SC Wg (tj SC Im c Wg) n 1 g:=by
 refine IC h1 ?_;refine apK (bL.out (yz h2)) (LS (.inr rfl)) (λw=>GL (λ_ h=>by cases h) h2 agq) ?_;refine IC (d:=deafBehind 1 #[⟨.mark .enable,false,true⟩]) h3 ?_;exact ab7 (bL.out (Ot h4)) (λw x y hW=>GN h4 acS GV i182 hW.st.1) ⟨0,h5⟩
theorem arI{h:SH}(hi:Im fc 0=some (.chan (some c)))(H:∀w,zT Wg c w h=zR Wg fc c w h):cj h=some (135,#[pW Wg 0])/\∃n,gR SC Wg (tj SC Im c Wg) n 1 (fin h (.int .u64 0)):=by
 have key:∀w,cj h=some ((135:TQ),#[pW Wg 0])/\bL h=true/\fi w 31 1 (fin h (.int .u64 0))=fh w 31 1 (fin h (.int .u64 0))/\cj (yc h)=some ((112:TQ),(#[]:Array SO))/\fi w 3 0 (fin (yc h) (.tuple #[]))=fh w 3 0 (fin (yc h) (.tuple #[]))/\oJ (Nk h)=some ((158:TypeId),(160:TypeId),pW Wg 0)/\cj (uN Wg h)=some ((123:TQ),#[pW Wg 0])/\bL (uN Wg h)=true/\fi w 22 0 (fin (uN Wg h) (.tuple #[]))=fh w 22 0 (fin (uN Wg h) (.tuple #[]))/\uz (Dn Wg h)=some ((139:TypeId),pW fc 0)/\qe (Dn Wg h)=true/\wR (uO Wg c h)=some (XM (some c))/\qe (uO Wg c h)=true/\bL (uO Wg c h)=true/\mayWake SC (uO Wg c h)=true/\yI w 4 (Hj Wg c h)=yH w 4 (Hj Wg c h):=λw=>by
  have:=H w;unfold zT zR at this;simpa only[UY]using this
 obtain⟨k1,k2,_,k4,_,k6,k7,k8,_,Cv,Lg,zC,Lh,Cw,Li,_⟩:=key default;refine⟨k1,Sy (n1:=31) (n2:=3) (λw=>(key w).2.2.1) k4 (λw=>(key w).2.2.2.2.1) k6 ?_⟩;exact ND (n:=22) hi k7 (λw=>(key w).2.2.2.2.2.2.2.2.1) Cv Lg zC Lh Cw Li (λw=>(key w).2.2.2.2.2.2.2.2.2.2.2.2.2.2.2)
theorem afM{b:SH}{v:Nat}(hv:0<v)(hi:Im fc 0=some (.chan (some c)))(H:∀w,fT Wg c w b=fR Wg fc c w b ((v:Int)* 4294967296))(hm:∃n,cP SC (ez SC Im c Wg v) n 1 (LN b)):Dp SC c Wg Im v 1 b:=by
 have key:∀w,cj b=some ((137:TQ),#[pW Wg 0,.int .u64 ((v:Int)* 4294967296),.int .u64 ((v:Int)* 4294967296+1)])/\bL b=true/\fi w 25 1 (fin b (.bool false))=fh w 25 1 (fin b (.bool false))/\fi w 19 1 (fin b (.bool true))=fh w 19 1 (fin b (.bool true))/\oJ (f96 b)=some ((165:TypeId),(160:TypeId),pW Wg 1)/\cj (f97 Wg b)=some ((126:TQ),#[pW Wg 1])/\bL (f97 Wg b)=true/\fi w 23 1 (fin (f97 Wg b) (.tuple #[]))=fh w 23 1 (fin (f97 Wg b) (.tuple #[]))/\cj (f121 Wg b)=some ((127:TQ),#[pW Wg 1,.bool false])/\(f121 Wg b).offers=none/\fi w 16 1 (fin (f121 Wg b) (.tuple #[]))=fh w 16 1 (fin (f121 Wg b) (.tuple #[]))/\cj (f138 Wg b)=some ((135:TQ),#[pW Wg 0])/\fi w 11 1 (fin (f138 Wg b) (.int .u64 0))=fh w 11 1 (fin (f138 Wg b) (.int .u64 0))/\cj (f150 Wg b)=some ((112:TQ),(#[]:Array SO))/\fi w 3 0 (fin (f150 Wg b) (.tuple #[]))=fh w 3 0 (fin (f150 Wg b) (.tuple #[]))/\oJ (f154 Wg b)=some ((158:TypeId),(160:TypeId),pW Wg 0)/\cj (f155 Wg b)=some ((123:TQ),#[pW Wg 0])/\bL (f155 Wg b)=true/\fi w 12 0 (fin (f155 Wg b) (.tuple #[]))=fh w 12 0 (fin (f155 Wg b) (.tuple #[]))/\uz (f168 Wg b)=some ((139:TypeId),pW fc 0)/\qe (f168 Wg b)=true/\wR (f169 Wg c b)=some (XM (some c))/\qe (f169 Wg c b)=true/\bL (f169 Wg c b)=true/\mayWake SC (f169 Wg c b)=true/\yI w 4 (f170 Wg c b)=yH w 4 (f170 Wg c b):=λw=>by
  have:=H w;unfold fT fR at this;simpa only[UY]using this
 obtain⟨k1,k2,_,_,k5,k6,k7,_,k9,Cv,_,zC,_,Cw,_,Lj,Ll,So,_,Lm,Ln,Lq,Lr,Ls,Lu,_⟩:=key default;refine⟨rfl,bL.out k2,⟨_,λw hW=>apX k1 OY hW.st.1 hW.st.2.2.1,?_⟩,λu hu=>⟨_,λw hW=>apY k1 OY hW.st.1 hW.st.2.2.1 (λe=> ?_),?_⟩⟩
 ·refine IC (λw=>(key w).2.2.2.1) ?_;have hs:SC.underlying 165=some (.pointer (GW.choose))/\(SC.info? GW.choose).map (λi=>decide (i.size=0))=some false:=GW.choose_spec;refine ab7 (bL.out (Ot k5)) (λw x y hW=>GN k5 hs.1 GV hs.2 hW.st.2.1) ⟨0,rfl,bL.out k7,_,λw=>GM .write (λ_ _ h=>by cases h) k6 agu,?_⟩;refine wW (λw=>(key w).2.2.2.2.2.2.2.1) ⟨0,rfl,bL.out (yz k9),Cv,λw st hW=> ?_,fin (f121 Wg b) (.tuple #[]),λw hW=> ?_,?_⟩
  ·exact ap3 k9 OW hW.st.2.1
  ·exact ap1 (n:=1) k9 OW hW.st.2.1 (by decide) hW.st.2.2.2
  ·refine wW (λw=>(key w).2.2.2.2.2.2.2.2.2.2.1) ⟨0,rfl,bL.out (yz zC),_,λw hW=>MO zC Iu hW.st.1,?_⟩;refine Sy (n1:=11) (n2:=3) (λw=>(key w).2.2.2.2.2.2.2.2.2.2.2.2.1) Cw (λw=>(key w).2.2.2.2.2.2.2.2.2.2.2.2.2.2.1) Lj ?_;exact ND (n:=12) hi Ll (λw=>(key w).2.2.2.2.2.2.2.2.2.2.2.2.2.2.2.2.2.2.1) Lm Ln Lq Lr Ls Lu (λw=>(key w).2.2.2.2.2.2.2.2.2.2.2.2.2.2.2.2.2.2.2.2.2.2.2.2.2)
 ·unfold KK at e;omega
 ·exact wW (λw=>(key w).2.2.1) hm
theorem mD(hi:Im fc 0=some (.chan (some c))){h:SH}{k:Nat}(hz:∀w,zT Wg c w h=zR Wg fc c w h)
  (hv:∀v,0<v->v<=k->v<=4->(∀w,fi w 48 1 (fin h (.int .u64 ((v:Int)* 4294967296)))=fh w 48 1 (fin h (.int .u64 ((v:Int)* 4294967296))))/\(∀w,fT Wg c w (f76 h ((v:Int)* 4294967296))=fR Wg fc c w (f76 h ((v:Int)* 4294967296)) ((v:Int)* 4294967296))/\ez SC Im c Wg v 1 (LN (f76 h ((v:Int)* 4294967296)))):ez SC Im c Wg (k+1) 1 h:=by
 obtain⟨z1,z2⟩:=arI hi hz;rw[ez];refine⟨rfl,bL.out (yz z1),λv h1 h2=> ?_⟩;refine⟨_,λw hW=>MO z1 Iu hW.st.1,λe=> ?_,λe=> ?_⟩
 ·subst e;exact z2
 ·obtain⟨q1,q2,q3⟩:=hv v (by omega) h1 h2;exact wW q1 ⟨0,afM (by omega) hi q2 ⟨0,q3⟩⟩
theorem dM{l:List Int}{v:Int}(h:∀w,pT Wg fc c w l v=pR Wg fc c w l v):(∀w,fi w 48 1 (fin (hd Wg fc l) (.int .u64 v))=fh w 48 1 (fin (hd Wg fc l) (.int .u64 v)))/\(∀w,fT Wg c w (bd Wg fc l v)=fR Wg fc c w (bd Wg fc l v) v)/\(∀w,zT Wg c w (hd Wg fc (v::l))=zR Wg fc c w (hd Wg fc (v::l))):=by
 refine⟨λw=>(WW (h w)).1,λw=>(WW (WW (h w)).2).1,λw=>(WW (WW (h w)).2).2⟩
end
section
variable (Wg fc c:Nat){Im:cq}
theorem akt(hi:Im fc 0=some (.chan (some c))):ez SC Im c Wg 1 1 (hd Wg fc [1* 4294967296]):=by
 refine mD (k:=0) hi (dM (Mc Wg fc c)).2.2 λv h1 h2 h3=> ?_;omega
theorem aku(hi:Im fc 0=some (.chan (some c))):ez SC Im c Wg 1 1 (hd Wg fc [1* 4294967296,2* 4294967296]):=by
 refine mD (k:=0) hi (dM (Md Wg fc c)).2.2 λv h1 h2 h3=> ?_;omega
theorem akB(hi:Im fc 0=some (.chan (some c))):ez SC Im c Wg 2 1 (hd Wg fc [2* 4294967296]):=by
 refine mD (k:=1) hi (dM (Mk Wg fc c)).2.2 λv h1 h2 h3=> ?_;rcases(show v=1 by omega)with rfl
 ·exact⟨(dM (Md Wg fc c)).1,(dM (Md Wg fc c)).2.1,aku Wg fc c hi⟩
theorem aky(hi:Im fc 0=some (.chan (some c))):ez SC Im c Wg 1 1 (hd Wg fc [1* 4294967296,3* 4294967296]):=by
 refine mD (k:=0) hi (dM (Mh Wg fc c)).2.2 λv h1 h2 h3=> ?_;omega
theorem akv(hi:Im fc 0=some (.chan (some c))):ez SC Im c Wg 1 1 (hd Wg fc [1* 4294967296,2* 4294967296,3* 4294967296]):=by
 refine mD (k:=0) hi (dM (Me Wg fc c)).2.2 λv h1 h2 h3=> ?_;omega
theorem akC(hi:Im fc 0=some (.chan (some c))):ez SC Im c Wg 2 1 (hd Wg fc [2* 4294967296,3* 4294967296]):=by
 refine mD (k:=1) hi (dM (Ml Wg fc c)).2.2 λv h1 h2 h3=> ?_;rcases(show v=1 by omega)with rfl
 ·exact⟨(dM (Me Wg fc c)).1,(dM (Me Wg fc c)).2.1,akv Wg fc c hi⟩
theorem akF(hi:Im fc 0=some (.chan (some c))):ez SC Im c Wg 3 1 (hd Wg fc [3* 4294967296]):=by
 refine mD (k:=2) hi (dM (Mo Wg fc c)).2.2 λv h1 h2 h3=> ?_;rcases(show v=1\/v=2 by omega)with rfl|rfl
 ·exact⟨(dM (Mh Wg fc c)).1,(dM (Mh Wg fc c)).2.1,aky Wg fc c hi⟩
 ·exact⟨(dM (Ml Wg fc c)).1,(dM (Ml Wg fc c)).2.1,akC Wg fc c hi⟩
theorem akA(hi:Im fc 0=some (.chan (some c))):ez SC Im c Wg 1 1 (hd Wg fc [1* 4294967296,4* 4294967296]):=by
 refine mD (k:=0) hi (dM (Mj Wg fc c)).2.2 λv h1 h2 h3=> ?_;omega
theorem akx(hi:Im fc 0=some (.chan (some c))):ez SC Im c Wg 1 1 (hd Wg fc [1* 4294967296,2* 4294967296,4* 4294967296]):=by
 refine mD (k:=0) hi (dM (Mg Wg fc c)).2.2 λv h1 h2 h3=> ?_;omega
theorem akE(hi:Im fc 0=some (.chan (some c))):ez SC Im c Wg 2 1 (hd Wg fc [2* 4294967296,4* 4294967296]):=by
 refine mD (k:=1) hi (dM (Mn Wg fc c)).2.2 λv h1 h2 h3=> ?_;rcases(show v=1 by omega)with rfl
 ·exact⟨(dM (Mg Wg fc c)).1,(dM (Mg Wg fc c)).2.1,akx Wg fc c hi⟩
theorem akz(hi:Im fc 0=some (.chan (some c))):ez SC Im c Wg 1 1 (hd Wg fc [1* 4294967296,3* 4294967296,4* 4294967296]):=by
 refine mD (k:=0) hi (dM (Mi Wg fc c)).2.2 λv h1 h2 h3=> ?_;omega
theorem akw(hi:Im fc 0=some (.chan (some c))):ez SC Im c Wg 1 1 (hd Wg fc [1* 4294967296,2* 4294967296,3* 4294967296,4* 4294967296]):=by
 refine mD (k:=0) hi (dM (Mf Wg fc c)).2.2 λv h1 h2 h3=> ?_;omega
theorem akD(hi:Im fc 0=some (.chan (some c))):ez SC Im c Wg 2 1 (hd Wg fc [2* 4294967296,3* 4294967296,4* 4294967296]):=by
 refine mD (k:=1) hi (dM (Mm Wg fc c)).2.2 λv h1 h2 h3=> ?_;rcases(show v=1 by omega)with rfl
 ·exact⟨(dM (Mf Wg fc c)).1,(dM (Mf Wg fc c)).2.1,akw Wg fc c hi⟩
theorem akG(hi:Im fc 0=some (.chan (some c))):ez SC Im c Wg 3 1 (hd Wg fc [3* 4294967296,4* 4294967296]):=by
 refine mD (k:=2) hi (dM (Mp Wg fc c)).2.2 λv h1 h2 h3=> ?_;rcases(show v=1\/v=2 by omega)with rfl|rfl
 ·exact⟨(dM (Mi Wg fc c)).1,(dM (Mi Wg fc c)).2.1,akz Wg fc c hi⟩
 ·exact⟨(dM (Mm Wg fc c)).1,(dM (Mm Wg fc c)).2.1,akD Wg fc c hi⟩
theorem akH(hi:Im fc 0=some (.chan (some c))):ez SC Im c Wg 4 1 (hd Wg fc [4* 4294967296]):=by
 refine mD (k:=3) hi (dM (Mq Wg fc c)).2.2 λv h1 h2 h3=> ?_;rcases(show v=1\/v=2\/v=3 by omega)with rfl|rfl|rfl
 ·exact⟨(dM (Mj Wg fc c)).1,(dM (Mj Wg fc c)).2.1,akA Wg fc c hi⟩
 ·exact⟨(dM (Mn Wg fc c)).1,(dM (Mn Wg fc c)).2.1,akE Wg fc c hi⟩
 ·exact⟨(dM (Mp Wg fc c)).1,(dM (Mp Wg fc c)).2.1,akG Wg fc c hi⟩
theorem hq_(hi:Im fc 0=some (.chan (some c))):ez SC Im c Wg 5 1 (hd Wg fc []):=by
 refine mD (k:=4) hi (zz Wg fc c) λv h1 h2 h3=> ?_;rcases(show v=1\/v=2\/v=3\/v=4 by omega)with rfl|rfl|rfl|rfl
 ·exact⟨(dM (Mc Wg fc c)).1,(dM (Mc Wg fc c)).2.1,akt Wg fc c hi⟩
 ·exact⟨(dM (Mk Wg fc c)).1,(dM (Mk Wg fc c)).2.1,akB Wg fc c hi⟩
 ·exact⟨(dM (Mo Wg fc c)).1,(dM (Mo Wg fc c)).2.1,akF Wg fc c hi⟩
 ·exact⟨(dM (Mq Wg fc c)).1,(dM (Mq Wg fc c)).2.1,akH Wg fc c hi⟩
theorem afS(hi:Im fc 0=some (.chan (some c))):Hp SC Im c Wg (born SC ⟨.fn (.func 100) #[pW Wg 0,pW fc 0],#[]⟩):=by
 have h0:∀w,fi w 7 0 (e0 Wg fc)=fh w 7 0 (e0 Wg fc)/\cj (e7 Wg fc)=some ((111:TQ),(#[]:Array SO))/\fi w 19 1 (e8 Wg fc)=fh w 19 1 (e8 Wg fc):=λw=>by
  have:=c0 Wg fc w;simpa only[UY]using this
 show ∃n,cP SC (ez SC Im c Wg 5) n 0 (e0 Wg fc);refine wW (λw=>(h0 w).1) ?_;refine MK (bL.out (yz (h0 default).2.1)) (LS (.inl rfl)) (λw=>GL (λ_ h=>by cases h) (h0 default).2.1 It) ?_;exact wW (d:=deafBehind 0 #[⟨.mark .disable,false,true⟩]) (λw=>(h0 w).2.2) ⟨0,hq_ Wg fc c hi⟩
end
open Go.Gg.Tk
section
variable {lv:Bool}{P:SJ}{r:Option Nat}{nt:Nat}{E:Env}{V:View}{a:Act}{s:AS}{c:T5}{Q:Ex->Act->View->Prop}
theorem yw(s3:AS)(ah:At E V s a nt)(h:aU lv P r nt c s (λe s'=>match e with|.normal=>s'.Sub s3|_=>False))(hQ:∀E' V' a',Kept E E' V V' a a'->At E' V' s3 a' nt->Q .normal a' V'):WP lv P r c Q a V:=
 h E V a Q ah λae e E' V' a' s' hk aS he hΦ=>by
  cases ae<;>cases e<;>first
   |exact he.elim
   |exact hΦ.elim
   |exact hQ E' V' a' hk (aS.sub hΦ)
theorem unwind_mark{lv:Bool}{P:SJ}{main:Bool}{J:View->SH->Prop}(C:Closed lv P main J){V:View}{fr:T9}{cs:List T9}{b:Nat}{ds:List UV}(h4:fr.defers={target:=.collected b,args:=#[]}::ds) (hm:(fr.mode matches .run)=false) (ho:V.own b=some (.deferred (some []))) (eS:V.role.chan≠some b) (h:J (V.upd b (.deferred none)) (G {fr with defers:=ds} cs)):J V (G fr cs):=by
 refine C.step _ _ rfl λw hw=> ?_;obtain⟨es,w',V',k1,k2,k3⟩:=(MG (P:=P) ho eS).runs hw;rcases k3 with⟨x,k3,rfl,rfl⟩|⟨_,_,hx⟩
 ·refine⟨G {fr with defers:=ds} cs,w',seen P fr.fn es,_,?_,k1.seen P fr.fn,h⟩;have e:stepG P main (G fr cs) w=unwind P main fr cs none w:=by
   obtain⟨fn,tmps,todo,defers,mode,kind,ro⟩:=fr;cases mode with
   |run=>cases hm
   |returning=>simp[G,stepG]
   |panicking ch=>simp[G,stepG]
  rw[e];simp only[unwind,h4];simp[TB,k3,k2,T1,G]
 ·exact hx.elim
theorem fF{s s':AS}(h:∀p∈s'.T,∃b,look s.T p.1=some b/\Wk b p.2)(hH:s.H=s'.H):s.Sub s':=⟨λ_ _ e=>h _ (ru e),hH⟩
theorem tM{E:Env}{x v:SO}(h:ap E (.val x) v):v=x:=by cases h;rfl
theorem Eb{E:Env}{cs:Array SO}(h:cG E [] cs):cs=#[]:=Array.size_eq_zero_iff.1 h.1
theorem OK{E:Env}{l:List SO}{cs:Array SO}(h:cG E (l.map .val) cs):cs=l.toArray:=by
 have hs:cs.size=l.length:=by simpa using h.1
 refine Array.ext hs λi h1 h2=> ?_;have hi:i<l.length:=by simpa using h2
 have:=tM (h.2 i (.val l[i]) (by simp[SV hi]));rw[SI,SK h1]at this;simpa using this
def rn (K:Kn)(b:Nat):List SO:=.bool K.has:: .map (some b)::(K.aA.map (λn:Nat=>SG .u16 n)++(K.hours.map (λn:Nat=>SG .u16 n)++(K.less.map (λn:Nat=>SG .u16 n)++(K.aT.map (λn:Nat=>SG .u16 n)++K.first.map (SG .i64)))))
def rl (K:Kn):Obj:=.map (K.aL.zipIdx.map eo).toArray K.aL.length
theorem af8{E:Env}{K:Kn}{mp:Nat}{v:SO}(h:ap E (.agg (K.l mp)) v):v=.agg (rn K (E.blk mp)).toArray:=by
 cases h with
 |agg hs h=>
  rename_i cs;congr 1;have hl:(K.l mp).length=(rn K (E.blk mp)).length:=by simp[Kn.l,rn]
  have key:∀(i:Nat)(x:AV),(K.l mp)[i]?=some x->∀y,ap E x y->(rn K (E.blk mp))[i]?=some y:=by
   intro i x hx y hy
   match i with
   |0=>cases hx;rw[tM hy];rfl
   |1=>cases hx;cases hy;rfl
   |i+2=>
    have e:(K.l mp)[i+2]?=((K.aA.map (λn:Nat=>SG .u16 n)++(K.hours.map (λn:Nat=>SG .u16 n)++(K.less.map (λn:Nat=>SG .u16 n)++(K.aT.map (λn:Nat=>SG .u16 n)++K.first.map (SG .i64))))).map AV.val)[i]?:=by
     simp[Kn.l,wv,iv,Yw]
    rw[e,To]at hx;obtain⟨z,h1,rfl⟩:=Tq.1 hx;rw[tM hy];exact h1
  have oZ:cs.size=(rn K (E.blk mp)).length:=hs.trans hl;refine Array.ext oZ λi h1 h2=> ?_;have hi:i<(K.l mp).length:=by omega
  have:=key i _ (SV hi) _ (h i _ (SV hi));rw[SI,SK h1]at this;have h3:(rn K (E.blk mp)).toArray[i]?=some cs[i]:=by simpa using this
  rw[SK h2]at h3;exact(Wj h3).symm
def qj (x:ai)(deep:Int)(bf:Nat):Spec:=λv _ Ow=>∃b,v=.agg (rn (gF x deep bf) b).toArray/\∀b',Ow b'=if b'=b then some (rl (gF x deep bf))else none
set_option maxRecDepth 100000 in
theorem anQ:SC.funcs.size=184:=by kernel_rfl
theorem M9{x:ai}{deep:Int}{bf:Nat}(hx:x.Ok)(hA:∀h∈kx x bf,mo h/\∀ns∈fS x h,∀a∈(hO x h ns).map (dx h ns),jj x a):bI (gF x deep bf):=by
 unfold gF;refine I3 hx (λt ht=> ?_) Cx;obtain⟨h,h1,h2⟩:=S7.1 ht;obtain⟨ns,h3,h4⟩:=M1 h2;exact(hA h h1).2 ns h3 t h4
theorem arx{J:View->SH->Prop}(C:yd SC false J){E:Env}{V:View}{x:ai}{bf c Wg:Nat}{deep:Int}{rv tv dv fv:SO}(hx:x.Ok)(lH:bf<=3)(hA:∀h∈kx x bf,mo h/\∀ns∈fS x h,∀a∈(hO x h ns).map (dx h ns),jj x a)(ajr:Conc E V [])
  (hr:ap E (.rp x.l) rv) (ht:ap E (.rp [iv bf]) tv) (hd:ap E (.rp [iv deep]) dv) (hf:ap E (.rp [.val (.chan (some c))]) fv) (bX:V.role=.work c Wg [qj x deep bf]) (eT:V.deaf=0):J V (born SC ⟨.fn (.func 97) #[pW Wg 0,rv,tv,dv,fv],#[]⟩):=by
 have C':Closed false SC false J:={C with more:=λh=>by cases h};unfold born;rw[anQ];refine acV C' (fr:={(default:T9)with fn:=184,defers:=[⟨.fn (.func 97) #[pW Wg 0,rv,tv,dv,fv],#[]⟩],mode:=.panicking [goexitEntry]}) (ds:=[]) rfl rfl (by kernel_rfl) ?_;refine agE (Q:=λa' V'=>∃b,a'.defers=[{target:=.collected b,args:=#[]},⟨.fn (.func 98) #[],#[pW Wg 0]⟩]/\V'.own b=some (.deferred (some []))/\V'.role=.work c Wg []/\V'.deaf=0) C' (by simp) F.f97 rfl ?_ ?_
 rotate_left
 ·rintro a' V' todo ⟨b,h1,h0,h2,h3⟩
  refine unwind_mark C' (ds:=[⟨.fn (.func 98) #[],#[pW Wg 0]⟩]) h1 rfl h0 (by rw[h2];simp[mS.chan]) ?_;refine acV C' (ds:=[]) rfl rfl (by kernel_rfl) ?_;exact agk Wg a'.tmps todo C h2 h3
 have cK:cG E [.val (pW Wg 0),.rp x.l,.rp [iv bf],.rp [iv deep],.rp [.val (.chan (some c))]] (#[]++#[pW Wg 0,rv,tv,dv,fv]):=by
  refine⟨rfl,λi a e=> ?_⟩
  match i,e with
  |0,e=>cases e;exact .val _
  |1,e=>cases e;exact hr
  |2,e=>cases e;exact ht
  |3,e=>cases e;exact hd
  |4,e=>cases e;exact hf
 have ah:=AZ (nt:=25) ajr cK (by simp);simp only[bk,SX]at ah;refine wp_seq ?_;refine(N1 (nt:=25) (n:=0) (ds:=[]) (Φ:=λe s' na=>e=.normal/\s'=⟨[(0,.val (pW Wg 0)),(1,.rp x.l),(2,.rp [iv bf]),(3,.rp [iv deep]),(4,.rp [.val (.chan (some c))])],[]⟩/\na=[(.fn (.func 98) [] [],[.val (pW Wg 0)])]) rfl rfl rfl rfl rfl rfl (by kernel_rfl) ?_) E V _ _ ah trivial λae e E1 V1 a1 s1 ds1 ik vu c9 BO h1=> ?_
 ·(try simp only[seval]);exact⟨_,_,_,rfl⟩
 obtain⟨rfl,rfl,rfl⟩:=h1;cases e<;>first
  |exact BO.elim
  |skip
 have ajA:a1.defers=[⟨.fn (.func 98) #[],#[pW Wg 0]⟩]:=by
  match iW:a1.defers,c9 with
  |[d],c9=>
   obtain⟨⟨f,first,cQ,fa,ca,vs,q1,rfl,q3,q4,q5⟩,_⟩:=c9;cases q1;rw[Eb q3,Eb q4,OK (l:=[pW Wg 0]) q5];rfl
  |[],c9=>exact c9.elim
  |_::_::_,c9=>exact c9.2.elim
 refine wp_seq ?_;refine yw ⟨[(5,.op 1 0),(0,.val (pW Wg 0)),(1,.rp x.l),(2,.rp [iv bf]),(3,.rp [iv deep]),(4,.rp [.val (.chan (some c))])],[setH [],.cells (Kn.zero.l 0) 88]⟩ vu ?_ λE2 V2 a2 cE tW=> ?_
 ·refine ak ?_;exact fF (by simp only[seval];simp[bA,Wk.refl]) rfl
 refine wp_seq (wp_seq ?_);refine yw ⟨ut x bf deep c (pW Wg 0),vV x bf Kn.zero⟩ tW ?_ λE3 V3 a3 vK pJ=> ?_
 ·have bN:x.l=[iv x.first,iv x.hours,iv x.am,dN x.seen,aY x.pieces,aY x.aC]:=rfl;refine aj ?_;simp only[seval,bN];refine aJ ((IK (x:=x) (n:=bf) ?_));(try simp only[seval]);exact fF (by unfold ut;simp only[seval];simp[bA,Wk.refl];exact Wk.refl _) rfl
 have ajB:a3.defers=[⟨.fn (.func 98) #[],#[pW Wg 0]⟩]:=vK.defers.trans (cE.defers.trans ajA);have akI:V3.role=.work c Wg [qj x deep bf]:=vK.role.trans (cE.role.trans (ik.role.trans bX));have ajv:V3.deaf=0:=vK.deaf.trans (cE.deaf.trans (ik.deaf.trans eT));refine alj (lv:=false) (bs:=[⟨.fn (.func 98) #[],#[pW Wg 0]⟩]) hx lH hA (λe s' cz=>e=.normal/\s'=⟨ut x bf deep c (pW Wg 0),vV x bf (gF x deep bf)++[.obj (.deferred (some [])),.gone]⟩/\cz=[4]) ⟨rfl,rfl,rfl⟩ E3 V3 a3 _ pJ ⟨by simp[ajB],by simp⟩ λae e E4 V4 a4 s4 ms4 oT qR aj5 he4 hΦ4=> ?_;obtain⟨rfl,rfl,rfl⟩:=hΦ4;cases e<;>first
  |exact he4.elim
  |skip
 have ajC:a4.defers=[{target:=.collected (E4.blk 4),args:=#[]},⟨.fn (.func 98) #[],#[pW Wg 0]⟩]:=aj5.1;have akJ:V4.role=.work c Wg [qj x deep bf]:=oT.role.trans akI;have Qz:V4.deaf=0:=oT.deaf.trans ajv;have xa:bI (gF x deep bf):=M9 hx hA;generalize hW:gF x deep bf=W at qR xa;have EC:=Kn.len xa 0;refine G7 (K:=λs'=>look s'.T 23=some (.val (.chan (some c)))/\look s'.T 24=some (.agg (W.l 0))/\s'.Sub ⟨ut x bf deep c (pW Wg 0),vV x bf W++[.obj (.deferred (some [])),.gone]⟩) 2 1 rfl (by kernel_rfl) qR ?_ λE5 V5 a5 s5 gh j3 hK=> ?_
 ·unfold ut vV;(try simp only[seval,EC]);rw[SW (i:=28) (by omega)];exact⟨rfl,fF (by simp only[seval];simp[bA,Wk.refl]) rfl⟩
 obtain⟨l23,l24,lG⟩:=hK;have EG:=j3.sub lG;have e23:a5.eval (.tmp 23)=.chan (some c):=tM (j3.tok _ _ l23).2;have e24:a5.eval (.tmp 24)=.agg (rn W (E5.blk 0)).toArray:=af8 (j3.tok _ _ l24).2;have h0:V5.own (E5.blk 0)=some (rl W):=(EG.bm.obj 0 (setH W.aL) rfl).1;have h4:V5.own (E5.blk 4)=some (.deferred (some [])):=(EG.bm.obj 4 (.obj (.deferred (some []))) rfl).1;have aG:E5.blk 4≠E5.blk 0:=λe=>by rw[e,h0]at h4;cases h4
 have hb4:E5.blk 4=E4.blk 4:=gh.le.blk 4 (by rw[qR.bm.n];simp[vV]);refine Nc rfl rfl ?_;refine⟨c,Wg,qj x deep bf,[],λb=>decide (b=E5.blk 0),e23,by rw[gh.role];exact akJ,gh.deaf.trans Qz,⟨E5.blk 0,by rw[hW];exact e24,λb'=> ?_⟩,?_⟩
 ·rw[hW];by_cases hb:b'=E5.blk 0
  ·subst hb;simp[h0]
  ·simp[hb]
 ·refine⟨trivial,E5.blk 4,?_,?_,rfl,gh.deaf.trans Qz⟩
  ·rw[hb4];exact gh.defers.trans ajC
  ·show (if decide (E5.blk 4=E5.blk 0)=true then none else V5.own (E5.blk 4))=_;rw[if_neg (by simpa using aG)];exact h4
theorem anu(r:Option Nat):AV.parts (.val (.chan r))=some [.val (.chan r)]:=rfl
theorem arL(r:Option Nat):lQ (.chan r)=[.val (.chan r)]:=rfl
theorem alG(r:Option Nat):AV.leaf (.val (.chan r))=true:=rfl
theorem M_{x y:T5}{t:Nat}{b:Bool}(ah:At E V s a nt)(hl:look s.T t=some (.val (.bool b)))(h:WP lv P r (if b then x else y) Q a V):WP lv P r (.cond (.tmp t) x y) Q a V:=by
 have hd:=(ah.tok t _ hl).2;generalize hx:a.tmps.getD t undef=v at hd;cases hd;exact wp_cond (t:=b) hx h
end
theorem OG{E:Env}{f:Fn}{first cQ:List AV}{v:SO}(h:ap E (.fn f first cQ) v):∃fa ca,v=.func f fa ca/\cG E first fa/\cG E cQ ca:=by
 cases h with
 |fn dF fP h1 h2=>exact⟨_,_,rfl,⟨dF,h1⟩,⟨fP,h2⟩⟩
theorem A8{E:Env}{i o:Nat}{v:SO}(h:ap E (.op i o) v):v=.pointer (some ⟨E.blk i,o,none⟩):=by cases h;rfl
theorem F5(x:ai)(n:Nat):∀a∈x.l,Lt n a:=by
 intro a ha;simp only[ai.l,SL,S4,or_false]at ha;rcases ha with rfl|rfl|rfl|rfl|rfl|rfl
 ·exact .val _
 ·exact .val _
 ·exact .val _
 ·rw[aat];trivial
 ·rw[F3];trivial
 ·rw[F3];trivial
theorem amm(x:ai):Lt 0 (.rp x.l):=by
 rw[xQ];exact F5 x 0
set_option maxRecDepth 100000 in
theorem wgT:M6 SC=147:=by kernel_rfl
def ci:T5->T5
 |.block _ c|.loop c|.scope c=>c
 |_=> .skip
noncomputable def uv:T5:=XJ.body.getD .skip
noncomputable def mb:T5:=cs (cs (cs uv))
def sf:Obj:=.chan 0 #[] false 0 0 false
def jg:List AV:=bv false:: .val (.map none)::(TN 15 (wv 0)++TN 11 (iv 0))
def dn (x:ai)(deep:Int)(c:Nat):List aa:=[.part 6 x.l 76,.part 1 [iv deep] 3,.cells jg 88,.part 1 [.val (.chan (some c))] 139,.gone]
structure ji (x:ai)(deep:Int)(Hs:List aa)(E:Env)(c Wg:Nat)(rv dv fv:SO)(T:List (Nat×AV))(M:List aa)(E':Env)(V':View)(a':Act):Prop where
 ah:At E' V' ⟨T,Hs++(dn x deep c++M)⟩ a' 35
 lo:E.Lo E'
 main:E'.main=false
 defers:a'.defers=[]
 deaf:V'.deaf=0
 er:rv=.pointer (some ⟨E'.blk Hs.length,0,none⟩)
 ed:dv=.pointer (some ⟨E'.blk (Hs.length+1),0,none⟩)
 ef:fv=.pointer (some ⟨E'.blk (Hs.length+3),0,none⟩)
 dr:ap E' (.rp x.l) rv
 dd:ap E' (.rp [iv deep]) dv
 df:ap E' (.rp [.val (.chan (some c))]) fv
 fr:∀b y,E.fr b=some y->E'.fr b=some y/\b≠c/\b≠Wg
 ne:c≠Wg
section
variable {x:ai}{deep:Int}{Hs:List aa}{E:Env}{c Wg:Nat}{rv dv fv:SO}{T T':List (Nat×AV)}{M M' G:List aa}{E1 E2:Env}{V1 V2:View}{a1 a2:Act}
theorem ji.GO(h:ji x deep Hs E c Wg rv dv fv T M E1 V1 a1)(le:E1.Le E2)(bw:a2.defers=a1.defers)(eT:V2.deaf=V1.deaf)(ah:At E2 V2 ⟨T',Hs++(dn x deep c++M')⟩ a2 35):ji x deep Hs E c Wg rv dv fv T' M' E2 V2 a2:=by
 have hl:∀i,i<5->Hs.length+i<E1.n:=λi hi=>by rw[h.ah.bm.n];simp[dn];omega
 exact⟨ah,h.lo.trans le.lo,le.main.trans h.main,bw.trans h.defers,eT.trans h.deaf,by have:=le.blk _ (hl 0 (by omega));rw[UH]at this;rw[this];exact h.er,by rw[le.blk _ (hl 1 (by omega))];exact h.ed,by rw[le.blk _ (hl 3 (by omega))];exact h.ef,h.dr.mono le,h.dd.mono le,h.df.mono le,λb y e=>by rw[le.fr];exact h.fr b y e,h.ne⟩
theorem ji.step(h:ji x deep Hs E c Wg rv dv fv T M E1 V1 a1)(hk:Kept E1 E2 V1 V2 a1 a2)(ah:At E2 V2 ⟨T',Hs++(dn x deep c++M')⟩ a2 35):ji x deep Hs E c Wg rv dv fv T' M' E2 V2 a2:=h.GO hk.le hk.defers hk.deaf ah
theorem ji.to(T':List (Nat×AV))(M':List aa)(h:ji x deep Hs E c Wg rv dv fv T M E1 V1 a1){cd:T5}{Q:Ex->Act->View->Prop}(hw:aU true SC none 35 cd ⟨T,Hs++(dn x deep c++M)⟩ (λe s'=>match e with|.normal=>s'.Sub ⟨T',Hs++(dn x deep c++M')⟩|_=>False))
  (hQ:∀E2 V2 a2,Kept E1 E2 V1 V2 a1 a2->ji x deep Hs E c Wg rv dv fv T' M' E2 V2 a2->Q .normal a2 V2):WP true SC none cd Q a1 V1:=
 yw ⟨T',Hs++(dn x deep c++M')⟩ h.ah hw λE2 V2 a2 hk ah=>hQ E2 V2 a2 hk (h.step hk ah)
theorem ji.cut(h:ji x deep Hs E c Wg rv dv fv T (M++G) E1 V1 a1)(hE:E.n<=Hs.length)(hT:∀p∈T',∃b,look T p.1=some b/\Wk b p.2/\Lt (Hs.length+5+M.length) p.2)(ay:bM (Hs++(dn x deep c++M))):ji x deep Hs E c Wg rv dv fv T' M {E1 with n:=Hs.length+5+M.length} V1 a1:=by
 have hlen:(Hs++(dn x deep c++M)).length=Hs.length+5+M.length:=by simp[dn];omega
 have hc:=h.ah.cut (s':=⟨T',Hs++(dn x deep c++M)⟩) ⟨λt a e=>by
  obtain⟨b,h1,h2,h3⟩:=hT _ (ru e);exact⟨b,h1,h2,by rw[hlen];exact h3⟩,⟨G,by simp⟩,ay⟩
 simp only[hlen]at hc;exact⟨hc,h.lo.cut (by omega),h.main,h.defers,h.deaf,h.er,h.ed,h.ef,h.dr.trim (by rw[xQ];exact F5 x _),h.dd.trim (by simp[xQ,eD]),h.df.trim (by simp[xQ,eD]),h.fr,h.ne⟩
theorem Su(hH:bM Hs)(hM:∀z∈M,eY (Hs.length+5+M.length) z):bM (Hs++(dn x deep c++M)):=by
 intro y hy;have hlen:(Hs++(dn x deep c++M)).length=Hs.length+5+M.length:=by simp[dn];omega
 rw[hlen];rcases SS.1 hy with h|h
 ·exact(hH y h).mono (by omega)
 ·rcases SS.1 h with h|h
  ·simp only[dn,SL,S4,or_false]at h;rcases h with rfl|rfl|rfl|rfl|rfl
   ·exactλa ha=>F5 x _ a ha
   ·intro a ha;simp at ha;subst ha;exact .val _
   ·intro a ha;simp only[jg,SL,SS,Xu]at ha;rcases ha with rfl|rfl|⟨_,rfl⟩|⟨_,rfl⟩<;>exact .val _
   ·intro a ha;simp at ha;subst ha;exact .val _
   ·trivial
  ·exact hM y h
end
def oy (x:ai)(deep:Int)(i:Nat):List (List Spec):=(S0 i).map λk=>[qj x deep k]
theorem MM(x:ai)(deep:Int)(i:Nat):(oy x deep i).length=i:=by simp[oy]
theorem apN(x:ai)(deep:Int)(i:Nat):oy x deep (i+1)=oy x deep i++[[qj x deep i]]:=by simp[oy,Vh]
def wH (x:ai):Prop:=∀bf,bf<=3->∀h∈kx x bf,mo h/\∀ns∈fS x h,∀a∈(hO x h ns).map (dx h ns),jj x a
noncomputable def jn (Hs:List aa)(Wg:Nat)(n:Int)(i:Nat):List (Nat×AV):=[(16,iv i),(15,iv n),(6,.val (pW Wg 0)),(5,.op (Hs.length+3) 0),(4,.op (Hs.length+2) 0),(3,.op (Hs.length+1) 0),(2,.op Hs.length 0)]
structure uR (x:ai)(deep:Int)(Hs:List aa)(E:Env)(c Wg:Nat)(rv dv fv:SO)(i:Nat)(T:List (Nat×AV))(M:List aa)(E':Env)(V':View)(a':Act):Prop where
 ok:ji x deep Hs E c Wg rv dv fv T M E' V' a'
 role:V'.role=.fork c Wg (oy x deep i)
 Em:E'.fr c=some sf
 Bh:E'.fr Wg=some (wgBlock SC ((i:Int)* 4294967296) 0)
section
variable {x:ai}{deep n:Int}{Hs:List aa}{E:Env}{c Wg i:Nat}{rv dv fv:SO}{T T':List (Nat×AV)}{M M':List aa}{E1 E2:Env}{V1 V2:View}{a1 a2:Act}
theorem uR.step(h:uR x deep Hs E c Wg rv dv fv i T M E1 V1 a1)(hk:Kept E1 E2 V1 V2 a1 a2)(hc:ji x deep Hs E c Wg rv dv fv T' M' E2 V2 a2):uR x deep Hs E c Wg rv dv fv i T' M' E2 V2 a2:=
 ⟨hc,hk.role.trans h.role,by rw[hk.le.fr];exact h.Em,by rw[hk.le.fr];exact h.Bh⟩
theorem alw(hx:x.Ok)(hA:wH x)(yP:E.n<=Hs.length)(ay:bM (Hs++(dn x deep c++[])))(h:uR x deep Hs E c Wg rv dv fv i (jn Hs Wg n i) [] E1 V1 a1)(hi:i<=3){cd:T5}{Q:Ex->Act->View->Prop}(hcd:cd=cs (cs (ci (ci (cs (cf mb))))))
  (hQ:∀E2 V2 a2,uR x deep Hs E c Wg rv dv fv (i+1) (jn Hs Wg n (i+1)) [] E2 V2 a2->Q .normal a2 V2):WP true SC none cd Q a1 V1:=by
 subst hcd;refine wp_seq (wp_block (wp_seq ?_));refine h.ok.to ((7,.op (Hs.length+5) 0)::jn Hs Wg n i) [.cells [iv i] 3] ?_ λE2 V2 a2 cE cM=> ?_
 ·unfold jn dn;refine ak ?_;exact fF (by simp only[seval];simp[bA,Wk.refl]) rfl
 have h2:=h.step cE cM;obtain⟨V3,g3,o3,r3,d3,FX,H_,OC⟩:=cM.ah.bm.Gw (id:=Hs.length+5) (by rw[aW];rfl) 1 (by simp);rw[dR]at H_;have J':Kept E2 {E2 with I:=V3.ab} V2 V3 a2 a2:=⟨FX,rfl,rfl,r3,d3⟩;have dO:=cM.step (T':=(7,.op (Hs.length+5) 0)::jn Hs Wg n i) (M':=[.part 1 [iv i] 3]) J' ⟨H_,cM.ah.tok.mono FX,cM.ah.size⟩;have h3:=h2.step J' dO;refine WP.ghost g3 ?_;generalize{E2 with I:=V3.ab}=E3 at FX H_ OC J' dO h3;have e6:a2.eval (.tmp 6)=pW Wg 0:=tM (dO.ah.tok 6 (.val (pW Wg 0)) rfl).2;obtain⟨w1,w2,w3⟩:=dO.ah.bm.fr Wg _ h3.Bh;have hrc:V3.role.chan≠some Wg:=by rw[h3.role];intro e;cases e;exact dO.ne rfl
 refine wp_seq (ac4 rfl rfl (ane rfl rfl (by kernel_rfl) ?_));have cK:(#[asg 6,atk (.int .i64 1)]:Array Ti).map a2.eval=#[pW Wg 0,.int .i64 1]:=by
  simp only[List.map_toArray,UU,List.map_nil,e6];rfl
 rw[cK];refine(aec (n:=i) (sm:=M6 SC) (by omega) w1 w2 hrc dO.deaf).mono λo V4 hV=> ?_;obtain⟨rfl,rfl⟩:=hV;dsimp only;refine arB ?_;let wu:Obj:=wgBlock SC (((i+1:Nat):Int)* 4294967296) 0;show WP true SC none _ _ (a2.put (some 19) (.tuple #[])) (V3.upd Wg wu);have sg:=dO.ah.bm.aiC h3.Bh wu;let f4:Nat->Option Obj:=λb'=>if b'=Wg then some wu else E3.fr b';have lX:ji x deep Hs E c Wg rv dv fv ((7,.op (Hs.length+5) 0)::jn Hs Wg n i) [.part 1 [iv i] 3] (E3.frame f4) (V3.upd Wg wu) (a2.put (some 19) (.tuple #[])):=by
  refine⟨⟨sg,λt av e=> ?_,(dX a2 (some 19) _).trans dO.ah.size⟩,dO.lo.trans (Env.F1 E3 f4),dO.main,(put_defers a2 _ _).trans dO.defers,dO.deaf,dO.er,dO.ed,dO.ef,dO.dr.frame f4,dO.dd.frame f4,dO.df.frame f4,λb y e=> ?_,dO.ne⟩
  ·have aG:t≠19:=by
    intro et;subst et;simp[jn,look]at e
   have:=((dO.ah.tok.frame f4).put (d:=19) (a:=.aK []) (v:=.tuple #[]) (by rw[dO.ah.size];omega) (.aK rfl (by simp))) t av (by simp only[look];rw[if_neg (Ne.symm aG)];exact e);exact this
  ·obtain⟨q1,q2,q3⟩:=dO.fr b y e;exact⟨by show (if b=Wg then _ else _)=_;rw[if_neg q3];exact q1,q2,q3⟩
 have OO:ap (E3.frame f4) (.rp [iv i]) (.pointer (some ⟨(E3.frame f4).blk (Hs.length+5),0,none⟩)):=by
  have hl:Hs.length+5<E2.n:=by rw[cM.ah.bm.n];simp[dn]
  have e:(E3.frame f4).blk (Hs.length+5)=E2.blk (Hs.length+5):=FX.blk _ hl;rw[e];exact OC.frame f4
 have GB:(V3.upd Wg wu).role=.fork c Wg (oy x deep i):=h3.role;have PL:(E3.frame f4).fr c=some sf:=by
  show (if c=Wg then _ else _)=_;rw[if_neg dO.ne];exact h3.Em
 have PM:(E3.frame f4).fr Wg=some wu:=by
  show (if Wg=Wg then _ else _)=_;rw[if_pos rfl]
 generalize E3.frame f4=E4 at lX OO PL PM;generalize V3.upd Wg wu=V4 at lX GB;generalize a2.put (some 19) (.tuple #[])=a4 at lX;clear sg;refine G7 (K:=λs'=>look s'.T 20=some (.fn (.func 97) [] [.val (pW Wg 0),.op Hs.length 0,.op (Hs.length+5) 0,.op (Hs.length+1) 0,.op (Hs.length+3) 0])/\s'.Sub ⟨jn Hs Wg n i,Hs++(dn x deep c++[.part 1 [iv i] 3])⟩) 1 1 rfl (by kernel_rfl) lX.ah ?_ λE5 V5 a5 s5 gh j3 hK=> ?_
 ·unfold jn dn;(try simp only[seval,T8,Uz,Uh,TP]);exact fF (by simp only[seval];simp[bA,Wk.refl]) rfl
 obtain⟨l20,lG⟩:=hK;have EG:=j3.sub lG;have cu:=lX.step gh EG;have CV:V5.role=.fork c Wg (oy x deep i):=gh.role.trans GB;have vn:E5.fr c=some sf:=by rw[gh.le.fr];exact PL
 have Bi:E5.fr Wg=some wu:=by rw[gh.le.fr];exact PM
 have dk5:=OO.mono gh.le;have pP:Hs.length+5<E4.n:=by rw[lX.ah.bm.n];simp[dn]
 refine Nc rfl rfl ?_;obtain⟨c1,c2,c3⟩:=cu.ah.bm.fr c _ vn;obtain⟨v1,v2,v3⟩:=cu.ah.bm.fr Wg _ Bi;have e20:a5.eval (.tmp 20)=.func (.func 97) #[] #[pW Wg 0,rv,.pointer (some ⟨E5.blk (Hs.length+5),0,none⟩),dv,fv]:=by
  obtain⟨fa,ca,q1,q2,q3⟩:=OG (j3.tok 20 _ l20).2;rw[Eb q2]at q1;refine q1.trans ?_;have KE:ca.size=5:=q3.1;have k0:=tM (q3.2 0 _ rfl);have k1:=A8 (q3.2 1 _ rfl);have k2:=A8 (q3.2 2 _ rfl);have k3:=A8 (q3.2 3 _ rfl);have k4:=A8 (q3.2 4 _ rfl);rw[<- cu.er]at k1;rw[<- cu.ed]at k3;rw[<- cu.ef]at k4;congr 1;refine Array.ext KE λj h1 h2=> ?_;have hj:j=0\/j=1\/j=2\/j=3\/j=4:=by omega
  rw[SI,SK (by omega)]at k0 k1 k2 k3 k4;rcases hj with rfl|rfl|rfl|rfl|rfl
  ·exact k0
  ·exact k1
  ·exact k2
  ·exact k3
  ·exact k4
 refine⟨rfl,.tmp 20,97,#[],_,rfl,e20,cu.deaf,.inl ⟨c,Wg,oy x deep i,qj x deep i,[],CV,c1,?_,?_,v2,λJ0 C=> ?_,?_⟩⟩
 ·rw[v1,MM]
 ·rw[MM];omega
 ·have hb:E5.blk (Hs.length+5)=E4.blk (Hs.length+5):=gh.le.blk _ pP;rw[hb];have:=arx (J:=J0) (V:={ab:=V5.ab,own:=λ_=>none,deaf:=0,role:=.work c Wg [qj x deep i]}) C hx hi (hA i hi) (afW cu.ah.bm.I rfl rfl) (cu.dr.bare (amm x)) (dk5.bare (by simp[xQ,eD])) (cu.dd.bare (by simp[xQ,eD])) (cu.df.bare (by simp[xQ,eD])) rfl rfl;simpa using this
 let V6:View:={V5 with role:=.fork c Wg (oy x deep i++[[qj x deep i]])};have Ia:Conc (E5.frame E5.fr) V6 (Hs++(dn x deep c++[.part 1 [iv i] 3])):=by
  refine cu.ah.bm.xZ (V':=V6) _ rfl (λ_ _ _ _ _ _ h=>h) (λg hg=> ?_) (λg hg=> ?_) (λhm=>by rw[cu.main]at hm;cases hm) cu.ah.bm.fr
  ·cases hg;exact⟨by show V5.own Wg≠none;rw[v1];simp,v2,v3⟩
  ·cases hg;exact⟨by show V5.own c≠none;rw[c1];simp,c2,c3⟩
 have n9:ji x deep Hs E c Wg rv dv fv (jn Hs Wg n i) [.part 1 [iv i] 3] E5 V6 (a5.put none undef):=⟨⟨Ia,cu.ah.tok,cu.ah.size⟩,cu.lo,cu.main,cu.defers,cu.deaf,cu.er,cu.ed,cu.ef,cu.dr,cu.dd,cu.df,cu.fr,cu.ne⟩;show WP true SC none _ _ (a5.put none undef) V6;refine n9.to (jn Hs Wg n (i+1)) [.part 1 [iv i] 3] ?_ λE7 V7 a7 og BH=> ?_
 ·unfold jn dn;have hw:SE.wrap ((i:Int)+1)=(i:Int)+1:=bG _ (by omega);refine aj ?_;simp only[seval,hw];exact fF (by simp only[seval];simp[bA,Wk.refl]) rfl
 have fz:=ji.cut (M:=[]) (T':=jn Hs Wg n (i+1)) BH yP (by
  unfold jn;simp only[Xd,S4,false_imp_iff,implies_true,and_true,look,Zt,if_false,if_true,Tl,exists_eq_left',Wk.refl,true_and,eD,aap,UQ];omega) ay
 refine hQ _ V7 a7 ⟨fz,?_,?_,?_⟩
 ·rw[og.role,apN]
 ·show E7.fr c=_;rw[og.le.fr];exact vn
 ·show E7.fr Wg=_;rw[og.le.fr];exact Bi
end
namespace Tk
theorem abk{hs:List (List Int)}{h:List Int}(hn:hs.Nodup):(jA hs h).Nodup:=by
 unfold jA;split
 ·exact hn
 ·rename_i hm;rw[U3];exact⟨hn,by simp,λa ha b hb=>by rw[S8.1 hb];exactλe=>hm (e▸ha)⟩
theorem aqD{x:ai}{deep:Int}{Q:Kn}{t:List Int}(hn:Q.aL.Nodup):(ey x deep Q t).aL.Nodup:=by
 have hB:(jJ Q t).aL.Nodup:=by unfold jJ;split<;>exact hn
 unfold ey;dsimp only;generalize jJ Q t=R at hB;split
 ·exact hB
 ·split
  ·exact abk hB
  ·exact hB
theorem arv{x:ai}{deep:Int}{bf:Nat}:(gF x deep bf).aL.Nodup:=by
 unfold gF;have key:∀(ts:List (List Int))(Q:Kn),Q.aL.Nodup->(ts.foldl (ey x deep) Q).aL.Nodup:=by
  intro ts;induction ts with
  |nil=>exactλQ h=>h
  |cons t ts ih=>exactλQ h=>ih _ (aqD h)
 exact key _ _ WJ
theorem PA:∀{l hs:List (List Int)},(∀y∈hs,y.length=4)->(∀y∈l,y.length=4)->∀y∈l.foldl jA hs,y.length=4
 |[],hs,h1,_=>h1
 |a::l,hs,h1,h2=>by rw[UW];exact PA (abi h1 (h2 a (by simp))) (λy hy=>h2 y (by simp[hy]))
theorem Gj{l m:List Nat}(h:l.length=m.length):(lL l m).length=l.length:=by simp[lL,h]
theorem Gk{l m:List Nat}(h1:∀n∈l,n<65536)(h2:∀n∈m,n<65536):∀n∈lL l m,n<65536:=λn hn=>by
 unfold lL at hn;rw[UP]at hn;obtain⟨i,hi⟩:=hn;rw[List.getElem?_zipWith]at hi;cases ha:l[i]?with
 |none=>rw[ha]at hi;cases hi
 |some a=>
  cases hb:m[i]?with
  |none=>rw[ha,hb]at hi;cases hi
  |some b=>
   rw[ha,hb]at hi;cases hi;exact pj (h1 _ (Te ha)) (h2 _ (Te hb))
theorem Sj{F G:Kn}{hs:List (List Int)}(hF:bI F)(hG:bI G)(hp:hs.Perm G.aL):bI (gM F hs G):=by
 unfold gM;split
 ·refine⟨(Gj (by rw[hF.aA,hG.aA])).trans hF.aA,(Gj (by rw[hF.hours,hG.hours])).trans hF.hours,(Gj (by rw[hF.less,hG.less])).trans hF.less,(Gj (by rw[hF.aT,hG.aT])).trans hF.aT,?_,Gk hF.me hG.me,Gk hF.mB hG.mB,Gk hF.mK hG.mK,Gk hF.lM hG.lM,PA hF.h4 λy hy=>hG.h4 y (hp.mem_iff.1 hy)⟩;split
  ·exact hG.first
  ·exact hF.first
 ·exact hF
inductive nM (x:ai)(deep:Int):List Nat->Kn->Prop where
 |nil:nM x deep [] Kn.zero
 |snoc {js:List Nat} {F:Kn} {j:Nat} {hs:List (List Int)} (h:nM x deep js F) (hp:hs.Perm (gF x deep j).aL):nM x deep (js++[j]) (gM F hs (gF x deep j))
end Tk
theorem wH.work{x:ai}{deep:Int}{j:Nat}(hA:wH x)(hx:x.Ok)(hj:j<=3):bI (gF x deep j):=M9 hx (hA j hj)
def mN (x:ai)(deep:Int)(n:Nat)(js:List Nat):List (List Spec):=(S0 n).map λk=>if k∈js then[]else[qj x deep k]
theorem apQ(x:ai)(deep:Int)(n:Nat):mN x deep n []=oy x deep n:=by simp[mN,oy]
theorem apP{x:ai}{deep:Int}{n j:Nat}{js:List Nat}{sp:Spec}{S:List Spec}(h:(mN x deep n js)[j]?=some (sp::S)):j<n/\j∉js/\sp=qj x deep j/\S=[]:=by
 unfold mN at h;rw[To]at h;obtain⟨k,h1,h2⟩:=Tq.1 h;have hk:j<n/\k=j:=by
  have:=SM.1 h1;obtain⟨h3,h4⟩:=this;simp at h3 h4;exact⟨h3,h4.symm⟩
 obtain⟨h3,rfl⟩:=hk;split at h2
 ·cases h2
 ·rename_i hm;cases h2;exact⟨h3,hm,rfl,rfl⟩
theorem apR{x:ai}{deep:Int}{n j:Nat}{js:List Nat}:(mN x deep n js).set j []=mN x deep n (js++[j]):=by
 apply Ym;intro k;unfold mN;rw[UI,To,To,Tn,Zv];by_cases hk:k<n
 ·rw[Xv hk];by_cases hj:j=k
  ·subst hj;rw[if_pos rfl,if_pos hk];simp
  ·rw[if_neg hj];have e:(k∈js++[j])<->k∈js:=by
    rw[SS,S8];exact⟨λh=>h.elim id λe=>absurd e.symm hj,.inl⟩
   simp only[UN,e]
 ·have e:(S0 n)[k]?=none:=Uu (by simp;omega);rw[e];by_cases hj:j=k
  ·subst hj;rw[if_pos rfl,if_neg hk];rfl
  ·rw[if_neg hj];rfl
theorem apO{x:ai}{deep:Int}{n:Nat}{js:List Nat}(h:∀S∈mN x deep n js,S=[]):∀k,k<n->k∈js:=λk hk=>by
 apply Tu;intro hn;have:=h [qj x deep k] (Tm.2 ⟨k,by simpa using hk,by rw[if_neg hn]⟩);cases this
theorem alu{E:Env}{K:Kn}{mp b:Nat}(hb:E.blk mp=b)(hm:mp<E.n):ap E (.agg (K.l mp)) (.agg (rn K b).toArray):=by
 subst hb;refine .agg (by simp[Kn.l,rn]) λi a e=> ?_
 match i with
 |0=>cases e;exact .val _
 |1=>cases e;exact .mp hm
 |i+2=>
  have e':(K.l mp)[i+2]?=((K.aA.map (λn:Nat=>SG .u16 n)++(K.hours.map (λn:Nat=>SG .u16 n)++(K.less.map (λn:Nat=>SG .u16 n)++(K.aT.map (λn:Nat=>SG .u16 n)++K.first.map (SG .i64))))).map AV.val)[i]?:=by
   simp[Kn.l,wv,iv,Yw]
  rw[e',To]at e;obtain⟨z,h1,rfl⟩:=Tq.1 e;have h2:(rn K (E.blk mp))[i+2]?=some z:=h1;rw[SI,Vd,h2];exact .val _
theorem uu(K:Kn)(mp:Nat):∀a∈K.l mp,a.leaf=true:=λa ha=>by
 simp only[Kn.l,SL,SS,Tm]at ha;rcases ha with rfl|rfl|⟨_,_,rfl⟩|⟨_,_,rfl⟩|⟨_,_,rfl⟩|⟨_,_,rfl⟩|⟨_,_,rfl⟩<;>rfl
theorem aeZ{lv:Bool}{P:SJ}{r:Option Nat}{nt:Nat}{E:Env}{V:View}{a:Act}{s:AS}{c:T5}{Q:Ex->Act->View->Prop}{α:Type}(p:α->Prop)(S3:α->AS)(ah:At E V s a nt)(h:aU lv P r nt c s (λe s'=>match e with|.normal=>∃q,p q/\s'.Sub (S3 q)|_=>False))(hQ:∀q E' V' a',p q->Kept E E' V V' a a'->At E' V' (S3 q) a' nt->Q .normal a' V'):WP lv P r c Q a V:=
 h E V a Q ah λae e E' V' a' s' hk aS he hΦ=>by
  cases ae<;>cases e<;>first
   |exact he.elim
   |exact hΦ.elim
   |(obtain⟨q,h1,h2⟩:=hΦ
     exact hQ q E' V' a' h1 hk (aS.sub h2))
theorem aga{E:Env}(l:List SO):ap E (.agg (l.map .val)) (.agg l.toArray):=by
 refine .agg (by simp) λi a e=> ?_;rw[To]at e;obtain⟨z,h1,rfl⟩:=Tq.1 e;rw[SI,Vd,h1];exact .val _
def Nm:List SO:=.bool false:: .map none::(TN 15 (.int .u16 0)++TN 11 (.int .i64 0))
def gZ (Hs:List aa)(F:Kn):List aa:=[setH F.aL,.cells (F.l (Hs.length+5)) 88]
noncomputable def jd (Hs:List aa):List (Nat×AV):=[(8,.op (Hs.length+6) 0),(5,.op (Hs.length+3) 0),(4,.op (Hs.length+2) 0)]
structure DI (x:ai)(deep:Int)(n:Nat)(Hs:List aa)(E:Env)(c Wg:Nat)(rv dv fv:SO)(js:List Nat)(F:Kn)(T:List (Nat×AV))(G:List aa)(E':Env)(V':View)(a':Act):Prop where
 ok:ji x deep Hs E c Wg rv dv fv T (gZ Hs F++G) E' V' a'
 role:V'.role=.recv c Wg (mN x deep n js)
 Sk:nM x deep js F
 kn:bI F
 nodup:js.Nodup
 lt:∀j∈js,j<n
noncomputable def St:T5:=ci (ci (cs (cs (cs mb))))
theorem alv{x:ai}{deep:Int}{Hs:List aa}{c:Nat}{F:Kn}(hH:bM Hs):bM (Hs++(dn x deep c++gZ Hs F)):=by
 refine Su hH λz hz=> ?_;simp only[gZ,SL,S4,or_false]at hz;rcases hz with rfl|rfl
 ·trivial
 ·exact xL (by simp[gZ])
theorem amt{V:View}{Im:cq}{b:Nat}{K:Kn}{w:Tp}(hS:Sat V w)(hI:∀b o x,Im b o=some x->w.cell? ⟨b,o,none⟩=some x)(hb:w.heap[b]?=some (rl K)):∀o,V.ab b o=none/\Im b o=none:=λo=>by
 have hc:w.cell? ⟨b,o,none⟩=none:=by simp[Ux,hb,rl]
 constructor
 ·cases h:V.ab b o with
  |none=>rfl
  |some v=>have:=hS.ab b o v h;rw[hc]at this;cases this
 ·cases h:Im b o with
  |none=>rfl
  |some v=>have:=hI b o v h;rw[hc]at this;cases this
section
variable {x:ai}{deep:Int}{n:Nat}{Hs:List aa}{E:Env}{c Wg:Nat}{js:List Nat}{D:Kn}{rv dv fv:SO}{T T':List (Nat×AV)}{G G':List aa}{E1 E2:Env}{V1 V2:View}{a1 a2:Act}
theorem alx(hx:x.Ok)(hA:wH x)(Ri:n<=4)(yP:E.n<=Hs.length)(ce:bM Hs)(h:DI x deep n Hs E c Wg rv dv fv js D (jd Hs) [] E1 V1 a1){Q:Ex->Act->View->Prop}
  (hQ:∀j D' E2 V2 a2,j∉js->DI x deep n Hs E c Wg rv dv fv (js++[j]) D' (jd Hs) [] E2 V2 a2->Q .normal a2 V2)
  (EB:∀E2 V2 a2 G,At E2 V2 ⟨[(4,.op (Hs.length+2) 0)],Hs++([.part 6 x.l 76,.part 1 [iv deep] 3,.cells (D.l (Hs.length+5)) 88,.part 1 [.val (.chan (some c))] 139,.gone,setH D.aL]++G)⟩ a2 35->E.Lo E2->a2.defers=[]->V2.deaf=0->V2.role=.plain->(∀b y,E.fr b=some y->E2.fr b=some y)->(∀k,k<n->k∈js)->Q .ret a2 V2):WP true SC none St Q a1 V1:=by
 refine wp_block (id:=3) (wp_seq ?_);refine G7 (K:=λs'=>look s'.T 26=some (.val (.chan (some c)))/\s'.Sub ⟨jd Hs,Hs++(dn x deep c++(gZ Hs D++[]))⟩) 1 7 rfl (by kernel_rfl) h.ok.ah ?_ λE3 V3 a3 s3 vK pJ hK=> ?_
 ·unfold jd dn gZ;(try simp only[seval]);exact fF (by simp only[seval];simp[bA,Wk.refl]) rfl
 obtain⟨l26,lG⟩:=hK;have dO:=h.ok.step vK (pJ.sub lG);have ro3:V3.role=.recv c Wg (mN x deep n js):=vK.role.trans h.role;have e26:a3.eval (.tmp 26)=.chan (some c):=tM (pJ.tok 26 _ l26).2;obtain⟨ti,vS,hzi⟩:=Tf.1 F.Nz;refine arA rfl rfl (.inr ?_);refine⟨rfl,c,Wg,mN x deep n js,.both,88,ti,_,e26,by kernel_rfl,vS,hzi,ro3,dO.deaf,λj sp S v Im Ow r1 r2 r3 r4 r5=> ?_,λhS=> ?_⟩
 ·
  obtain⟨oS,ij,rfl,rfl⟩:=apP r1;obtain⟨b,hv,Jm⟩:=r2;have xa:bI (gF x deep j):=hA.work hx (by omega);have Qd:(gF x deep j).aL.Nodup:=arv;obtain⟨W,hW⟩:∃W,W=gF x deep j:=⟨_,rfl⟩;rw[<- hW]at hv Jm xa Qd;let py:View:={V3 with ab:=λb o=>match V3.ab b o with|some x=>some x|none=>Im b o,role:=.recv c Wg ((mN x deep n js).set j [])};obtain⟨aaa,Oq⟩:=dO.ah.bm.alV (V':=py) rfl (λb o v e=>by show (match V3.ab b o with|some x=>some x|none=>Im b o)=some v;rw[e]) (λb o hb e=>by
   show (match V3.ab b o with|some x=>some x|none=>Im b o)=none;rw[e];apply Tu;intro aG;exact absurd e (r4 b o hb aG)) rfl rfl (λhm=>by rw[dO.main]at hm;cases hm)
  have Jl:Ow b=some (rl W):=by rw[Jm];simp
  obtain⟨w,hSw,hIw,hww⟩:=r5;have ju:=amt hSw hIw (hww b _ Jl);have gX:V3.own b=none:=by
   apply Tu;intro aG;have:=r3 b aG;rw[Jl]at this;cases this
  have JO:py.fresh b:=⟨gX,λo=>by
   show (match V3.ab b o with|some x=>some x|none=>Im b o)=none;rw[(ju o).1];exact(ju o).2⟩
  have ajZ:E3.n=Hs.length+7:=by rw[dO.ah.bm.n];simp[dn,gZ]
  have sg:=Oq.add JO (rl W) (x:=.obj (rl W)) ⟨by rw[Env.dJ];simp[View.upd],rfl,rfl,λo=>by rw[Env.dJ];exact JO.2 o⟩ (λb' e=>by
   simp only[bK,Env.dJ,Tl]at e;exact e.symm)
  have Qa:py.upd b (rl W)={V3 with ab:=λb o=>match V3.ab b o with|some x=>some x|none=>Im b o,own:=λb=>match V3.own b with|some x=>some x|none=>Ow b,role:=.recv c Wg ((mN x deep n js).set j [])}:=by
   have:(λb'=>if b'=b then some (rl W)else V3.own b')=λb=>match V3.own b with|some x=>some x|none=>Ow b:=by
    funext b';by_cases hb:b'=b
    ·subst hb;rw[if_pos rfl,gX,Jl]
    ·rw[if_neg hb];cases dB:V3.own b' with
     |some y=>rfl
     |none=>simp[Jm,hb]
   show View.mk _ _ _ _=View.mk _ _ _ _;congr 1
  have PZ:(({E3 with I:=py.ab}:Env).add b py.ab).blk (Hs.length+7)=b:=by rw[<- ajZ];exact Env.dJ ({E3 with I:=py.ab}:Env) b _
  have LB:E3.Le (({E3 with I:=py.ab}:Env).add b py.ab):=aaa.trans (Env.qb _ b λ_ _ _ e=>e);have aj6:(({E3 with I:=py.ab}:Env).add b py.ab).n=Hs.length+8:=by show E3.n+1=_;omega
  rw[Qa]at sg;generalize hE4:(({E3 with I:=py.ab}:Env).add b py.ab)=E4 at sg PZ LB aj6;have bi:ap E4 (.aK [.agg (W.l (Hs.length+7)),bv true]) (.tuple #[v,.bool true]):=by
   subst hv;refine .aK rfl λq a e=> ?_
   match q,e with
   |0,e=>cases e;exact alu PZ (by omega)
   |1,e=>cases e;exact .val _
  have ai6:Hs++(dn x deep c++(gZ Hs D++[]))++[aa.obj (rl W)]=Hs++(dn x deep c++(gZ Hs D++[setH W.aL])):=by simp[setH,rl]
  rw[ai6]at sg;clear Qa hE4 Oq aaa JO;generalize Qb:({V3 with ab:=λb o=>match V3.ab b o with|some x=>some x|none=>Im b o,own:=λb=>match V3.own b with|some x=>some x|none=>Ow b,role:=.recv c Wg ((mN x deep n js).set j [])}:View)=V4 at sg;have GB:V4.role=.recv c Wg (mN x deep n (js++[j])):=by rw[<- Qb];show mS.recv c Wg _=_;rw[apR]
  have de4:V4.deaf=V3.deaf:=by rw[<- Qb]
  have qR:At E4 V4 ⟨(27,.aK [.agg (W.l (Hs.length+7)),bv true])::jd Hs,Hs++(dn x deep c++(gZ Hs D++[setH W.aL]))⟩ (a3.put (some 27) (.tuple #[v,.bool true])) 35:=⟨sg,(dO.ah.tok.mono LB).put (by rw[dO.ah.size];omega) bi,(dX a3 (some 27) _).trans dO.ah.size⟩;have lX:ji x deep Hs E c Wg rv dv fv ((27,.aK [.agg (W.l (Hs.length+7)),bv true])::jd Hs) (gZ Hs D++[setH W.aL]) E4 V4 (a3.put (some 27) (.tuple #[v,.bool true])):=
   dO.GO LB (put_defers a3 _ _) de4 qR
  have EC:=Kn.len xa (Hs.length+7);refine Nd ⟨(10,bv true)::(9,.op (Hs.length+8) 0)::jd Hs,Hs++(dn x deep c++(gZ Hs D++[setH W.aL,.cells (W.l (Hs.length+7)) 88]))⟩ rfl (by kernel_rfl) qR ?_ λE5 V5 a5 gh j3=> ?_
  ·unfold jd dn gZ;(try simp only[seval,EC]);exact⟨uu _ _,fF (by simp only[seval];simp[bA,Wk.refl]) rfl⟩
  have cu:=lX.step gh j3;have CV:V5.role=.recv c Wg (mN x deep n (js++[j])):=gh.role.trans GB;refine wp_seq (wp_seq ?_);refine cu.to ((31,bv false)::(9,.op (Hs.length+8) 0)::jd Hs) (gZ Hs D++[setH W.aL,.cells (W.l (Hs.length+7)) 88]) ?_ λE6 V6 a6 BW n9=> ?_
  ·unfold jd dn gZ;refine ak ?_;exact fF (by simp only[seval];simp[bA,Wk.refl]) rfl
  refine M_ n9.ah rfl ?_;refine wp_skip ?_;refine aeZ (λhs:List (List Int)=>hs.Perm W.aL) (λhs=>⟨jd Hs,Hs++(dn x deep c++(gZ Hs (gM D hs W)++[setH W.aL,.cells (W.l (Hs.length+7)) 88]))⟩) n9.ah ?_ λhs E7 V7 a7 Ku og Jv=> ?_
  ·unfold jd dn gZ;refine aj ?_;simp only[seval,EC];rw[SW (i:=28) (by omega)];refine aJ ((ag5 (fp:=Hs.length+6) (mp:=Hs.length+5) (mg:=Hs.length+7) h.kn xa (by omega) (by omega) (by rw[aW];rfl) (by rw[aW];rfl) (by rw[aW];rfl) Qd ?_));intro hs hp;rw[dR,dR];(try simp only[seval]);exact⟨hs,hp,fF (by simp only[seval];simp[bA,Wk.refl]) rfl⟩
  have BH:=n9.step og Jv;have fz:=ji.cut (T':=jd Hs) BH yP (by
   unfold jd gZ;simp only[Xd,S4,false_imp_iff,implies_true,and_true,look,Zt,if_false,if_true,Tl,exists_eq_left',Wk.refl,true_and,aap,Ul,UQ];omega) (alv ce)
  have jv:nM x deep (js++[j]) (gM D hs W):=by
   rw[hW]at Ku⊢;exact h.Sk.snoc Ku
  refine hQ j (gM D hs W) _ V7 a7 ij ⟨by rw[SY];exact fz,?_,jv,Sj h.kn xa Ku,?_,?_⟩
  ·rw[og.role,BW.role];exact CV
  ·rw[U3];exact⟨h.nodup,by simp,λa ha b hb=>by rw[S8.1 hb];exactλe=>ij (e▸ha)⟩
  ·intro k hk;rcases SS.1 hk with h'|h'
   ·exact h.lt k h'
   ·rw[S8.1 h'];exact oS
 ·
  have fy:=apO hS;let V4:View:={V3 with role:=.plain};have sg:Conc (E3.frame E3.fr) V4 (Hs++(dn x deep c++(gZ Hs D++[]))):=
   dO.ah.bm.xZ (V':=V4) _ rfl (λ_ _ _ _ _ _ h=>h) (λg hg=>by cases hg) (λg hg=>by cases hg) (λhm=>by rw[dO.main]at hm;cases hm) dO.ah.bm.fr
  have bi:ap E3 (.aK [.agg jg,bv false]) (.tuple #[.agg Nm.toArray,.bool false]):=by
   refine .aK rfl λq a e=> ?_
   match q,e with
   |0,e=>cases e;exact aga Nm
   |1,e=>cases e;exact .val _
  have qR:At E3 V4 ⟨(27,.aK [.agg jg,bv false])::jd Hs,Hs++(dn x deep c++(gZ Hs D++[]))⟩ (a3.put (some 27) (.tuple #[.agg Nm.toArray,.bool false])) 35:=⟨sg,dO.ah.tok.put (by rw[dO.ah.size];omega) bi,(dX a3 (some 27) _).trans dO.ah.size⟩;have lX:=dO.GO (V2:=V4) (Env.Le.refl E3) (put_defers a3 (some 27) _) rfl qR;have l9:jg.length=28:=rfl;have bS:=Kn.len h.kn (Hs.length+5);refine Nd ⟨(10,bv false)::jd Hs,Hs++(dn x deep c++(gZ Hs D++[.cells jg 88]))⟩ rfl (by kernel_rfl) qR ?_ λE5 V5 a5 gh j3=> ?_
  ·unfold jd dn gZ;(try simp only[seval,l9]);exact⟨λa ha=>by simp only[jg,SL,SS,Xu]at ha;rcases ha with rfl|rfl|⟨_,rfl⟩|⟨_,rfl⟩<;>rfl,fF (by simp only[seval];simp[bA,Wk.refl]) rfl⟩
  have cu:=lX.step gh j3;refine wp_seq (wp_seq ?_);refine cu.to ((31,bv true)::jd Hs) (gZ Hs D++[.cells jg 88]) ?_ λE6 V6 a6 BW n9=> ?_
  ·unfold jd dn gZ;refine ak ?_;exact fF (by simp only[seval];simp[bA,Wk.refl]) rfl
  refine M_ n9.ah rfl ?_;refine wp_seq ?_;refine yw ⟨[(4,.op (Hs.length+2) 0)],Hs++([.part 6 x.l 76,.part 1 [iv deep] 3,.cells (D.l (Hs.length+5)) 88,.part 1 [.val (.chan (some c))] 139,.gone,setH D.aL]++[.cells (D.l (Hs.length+5)) 88,.cells jg 88])⟩ n9.ah ?_ λE7 V7 a7 og Jv=> ?_
  ·unfold jd dn gZ;refine aj ?_;simp only[seval,bS,l9];rw[SW (i:=28) (l:=D.l (Hs.length+5)) (by omega)];exact⟨bS,by omega,uu _ _,fF (by simp only[seval];simp[bA,Wk.refl]) (by rw[bS,TS (by rw[l9];exact SP _),SY])⟩
  refine wp_ret ?_;exact EB E7 V7 a7 _ Jv (n9.lo.trans og.le.lo) (og.defers.trans n9.defers) (og.deaf.trans n9.deaf) (og.role.trans (BW.role.trans gh.role)) (λb y e=>by rw[og.le.fr];exact(n9.fr b y e).1) fy
end
open Go.Conc Go.Proofs Go.Gg.Tk
theorem aoQ{P:SJ}{rs:List UM}{fn:ZP}{nt:Nat}{k kp:AV->List aa->Prop}{E E':Env}{V V':View}{H L G:List aa}{T:List (Nat×AV)}{a':Act}{av:AV}(hr:fn.results=rs.toArray)(ah:At E' V' ⟨T,H.map strip++(L++G)⟩ a' nt)(oU:E.Lo E')(hc:Conc E V H)(bX:V'.role=V.role)(eT:V'.deaf=V.deaf)(hf:∀b y,E.fr b=some y->E'.fr b=some y)
  (gn:gO P ⟨T,H.map strip++(L++G)⟩ rs=some [av]) (hL:L.map strip=L) (ay:bM (H.map strip++L)) (hlt:Lt (H.length+L.length) av) (hk:k av (H++L)):∃v,aN P V' (results fn a'.tmps) (λx aR=>x=v/\aR=V') (λ_ _=>False)/\gI E V k kp (.ret v) V':=by
 obtain⟨vs,hl,lJ,xy⟩:=Gz ah rs [av] gn;obtain⟨v,rfl⟩:∃v,vs=[v]:=List.length_eq_one_iff.1 hl;have bi:ap E' av v:=lJ 0 av rfl;have p7:aN P V' (results fn a'.tmps) (λx aR=>x=v/\aR=V') (λ_ _=>False):=by
  unfold results;rw[hr,XX];refine az ?_;refine az (xy ?_);refine aq (aq ⟨?_,rfl⟩);simp
 have JC:=ah.bm;dsimp only at JC;rw[<- SD]at JC;have fz:=JC.trim (H:=H.map strip++L) (G:=G) ay;have hlen:(H.map strip++L).length=H.length+L.length:=by simp
 rw[hlen]at fz;have ug:(H++L).map strip=H.map strip++L:=by rw[TE,hL]
 rw[<- ug]at fz;refine⟨v,p7,av,((({E' with n:=H.length+L.length}:Env).ff E.main).frame E.fr),H++L,?_,bX,eT,?_,fz.aoH E.main E.fr (λk e=> ?_) (λe=>by rw[bX,eT];exact hc.top e) hf,hk⟩
 ·refine Env.Lo.le (E':={E' with n:=H.length+L.length}) ⟨oU.I,?_,oU.blk,oU.fu,oU.room⟩;show E.n<=H.length+L.length;rw[hc.n];omega
 ·exact((bi.trim hlt).ff E.main).frame E.fr
 ·by_cases BY:k<H.length
  ·rw[SZ BY]at e;exact hc.obj k _ e
  ·rw[Tj (by omega)]at e;have h2:(L.map strip)[k-H.length]?=some .gone:=(by rw[To,e];rfl);rw[hL,e]at h2;cases h2
section
variable {x:ai}{deep:Int}{Hs:List aa}{E:Env}{c Wg p:Nat}{rv dv fv:SO}{T:List (Nat×AV)}{E1:Env}{V1:View}{a1:Act}
theorem aly(hx:x.Ok)(hA:wH x)(hp:x.am=p)(yP:E.n<=Hs.length)(ce:bM Hs)(h:uR x deep Hs E c Wg rv dv fv 0 [(6,.val (pW Wg 0)),(5,.op (Hs.length+3) 0),(4,.op (Hs.length+2) 0),(3,.op (Hs.length+1) 0),(2,.op Hs.length 0)] [] E1 V1 a1){Q:Ex->Act->View->Prop}
  (hQ:∀js D E2 V2 a2 G,js.Perm (S0 (p+1))->nM x deep js D->bI D->At E2 V2 ⟨[(4,.op (Hs.length+2) 0)],Hs++([.part 6 x.l 76,.part 1 [iv deep] 3,.cells (D.l (Hs.length+5)) 88,.part 1 [.val (.chan (some c))] 139,.gone,setH D.aL]++G)⟩ a2 35->E.Lo E2->a2.defers=[]->V2.deaf=0->V2.role=.plain->(∀b y,E.fr b=some y->E2.fr b=some y)->Q .ret a2 V2):WP true SC none mb Q a1 V1:=by
 have hp3:p<=3:=by have:=hx.am;omega
 have aki:bM (Hs++(dn x deep c++[])):=Su ce (by simp);refine wp_seq (x:=cf mb) (wp_seq (x:=cf (cf mb)) ?_);refine h.ok.to (jn Hs Wg ((p+1:Nat):Int) 0) [] ?_ λE2 V2 a2 cE cM=> ?_
 ·show aU true SC none 35 (cf (cf mb)) _ _;unfold jn dn;have bN:x.l=[iv x.first,iv x.hours,iv x.am,dN x.seen,aY x.pieces,aY x.aC]:=rfl;have hw:SE.wrap (x.am+1)=((p+1:Nat):Int):=by rw[hp,bG _ (by omega)];rfl
  refine aj ?_;simp only[seval,bN,hw];exact fF (by simp only[seval];simp[bA,Wk.refl]) rfl
 have h2:uR x deep Hs E c Wg rv dv fv 0 (jn Hs Wg ((p+1:Nat):Int) 0) [] E2 V2 a2:=h.step cE cM;refine wp_block (id:=0) (c:=.loop (ci (ci (cs (cf mb))))) ?_;refine wp_loop (λm a' V'=>∃E' i,m=p+1-i/\i<=p+1/\uR x deep Hs E c Wg rv dv fv i (jn Hs Wg ((p+1:Nat):Int) i) [] E' V' a') (p+1) ⟨E2,0,rfl,by omega,h2⟩ λm a3 V3 hI=> ?_;obtain⟨E3,i,rfl,hi,h3⟩:=hI;refine wp_seq (x:=cf (ci (ci (cs (cf mb))))) (y:=cs (ci (ci (cs (cf mb))))) ?_;refine h3.ok.to ((17,bv (decide ((i:Int)<((p+1:Nat):Int))))::jn Hs Wg ((p+1:Nat):Int) i) [] ?_ λE4 V4 a4 oT lX=> ?_
 ·show aU true SC none 35 (cf (ci (ci (cs (cf mb))))) _ _;unfold jn dn;refine ak ?_;exact fF (by simp only[seval];simp[bA,Wk.refl]) rfl
 have qL:=h3.step oT lX;refine wp_seq (x:=.cond (.tmp 17) .skip (.exit 0)) (y:=cs (cs (ci (ci (cs (cf mb)))))) (M_ lX.ah rfl ?_);by_cases QO:i<p+1
 ·rw[show decide ((i:Int)<((p+1:Nat):Int))=true from decide_eq_true (by omega)];refine wp_skip ?_;have ajg:ji x deep Hs E c Wg rv dv fv (jn Hs Wg ((p+1:Nat):Int) i) [] E4 V4 a4:=lX.GO (Env.Le.refl E4) rfl rfl (lX.ah.sub (fF (by unfold jn dn;simp only[seval];simp[bA,Wk.refl]) rfl));exact alw hx hA yP aki ⟨ajg,qL.role,qL.Em,qL.Bh⟩ (by omega) rfl λE5 V5 a5 h5=>⟨p+1-(i+1),by omega,E5,i+1,rfl,by omega,h5⟩
 have du:i=p+1:=by omega
 subst du;rw[show decide ((((p+1:Nat):Int))<((p+1:Nat):Int))=false by simp];refine wp_exit ?_;refine wp_seq (x:=cf (cs mb)) (y:=cs (cs mb)) ?_;refine G7 (K:=λs'=>look s'.T 22=some (.fn (.func 100) [] [.val (pW Wg 0),.op (Hs.length+3) 0])/\s'.Sub ⟨[(5,.op (Hs.length+3) 0),(4,.op (Hs.length+2) 0)],Hs++(dn x deep c++[])⟩) 1 1 rfl (by kernel_rfl) lX.ah ?_ λE5 V5 a5 s5 gh j3 hK=> ?_
 ·unfold jn dn;(try simp only[seval,T8,Uz,Uh,TP]);exact fF (by simp only[seval];simp[bA,Wk.refl]) rfl
 obtain⟨Lw,lG⟩:=hK;have cu:=lX.step gh (j3.sub lG);have CV:V5.role=.fork c Wg (oy x deep (p+1)):=gh.role.trans qL.role;have vn:E5.fr c=some sf:=by rw[gh.le.fr];exact qL.Em
 have Bi:E5.fr Wg=some (wgBlock SC (((p+1:Nat):Int)* 4294967296) 0):=by rw[gh.le.fr];exact qL.Bh
 obtain⟨c1,c2,c3⟩:=cu.ah.bm.fr c _ vn;obtain⟨v1,v2,v3⟩:=cu.ah.bm.fr Wg _ Bi;have e22:a5.eval (.tmp 22)=.func (.func 100) #[] #[pW Wg 0,fv]:=by
  obtain⟨fa,ca,q1,q2,q3⟩:=OG (j3.tok 22 _ Lw).2;rw[Eb q2]at q1;refine q1.trans ?_;have fP:ca.size=2:=q3.1;have k0:=tM (q3.2 0 _ rfl);have k1:=A8 (q3.2 1 _ rfl);rw[<- cu.ef]at k1;congr 1;refine Array.ext fP λj h1 h2=> ?_;have hj:j=0\/j=1:=by omega
  rw[SI,SK (by omega)]at k0 k1;rcases hj with rfl|rfl
  ·exact k0
  ·exact k1
 have hfc:V5.ab (E5.blk (Hs.length+3)) 0=some (.chan (some c)):=by
  have bw:=cu.df;rw[cu.ef]at bw;generalize hp:(Value.pointer (some ⟨E5.blk (Hs.length+3),0,none⟩))=pv at bw;cases bw with
  |rp b o f h1 h2=>
   cases hp;have:=h1 0 (by simp);rw[cu.ah.bm.I]at this;rw[UH]at this;rw[this,tM (h2 0 _ rfl)]
 refine Nc rfl rfl ?_;refine⟨rfl,.tmp 22,100,#[],_,rfl,e22,cu.deaf,.inr ⟨c,Wg,_,CV,cu.ne,c1,?_,c2,v2,?_,?_⟩⟩
 ·rw[v1,MM]
 ·have:=afS Wg (E5.blk (Hs.length+3)) c (Im:=V5.ab) hfc;rw[cu.ef];simpa[pW]using this
 let V6:View:={V5 with own:=λb=>if b=c\/b=Wg then none else V5.own b,role:=.recv c Wg (oy x deep (p+1))};let f6:Nat->Option Obj:=λb=>if b=c\/b=Wg then none else E5.fr b;have Ia:Conc (E5.frame f6) V6 (Hs++(dn x deep c++[])):=by
  refine cu.ah.bm.xZ (V':=V6) _ rfl (λb z k w hk ku hz=> ?_) (λg hg=>by cases hg) (λg hg=>by cases hg) (λhm=>by rw[cu.main]at hm;cases hm) (λb y hb=> ?_)
  ·have n1:b≠c:=cu.ah.bm.CL vn hk ku;have n2:b≠Wg:=cu.ah.bm.CL Bi hk ku;show (if b=c\/b=Wg then none else V5.own b)=some z;rw[if_neg (λe=>e.elim n1 n2)];exact hz
  ·by_cases yX:b=c\/b=Wg
   ·simp only[f6,if_pos yX]at hb;cases hb
   ·simp only[f6,if_neg yX]at hb;obtain⟨q1,q2,q3⟩:=cu.ah.bm.fr b y hb;refine⟨?_,q2,q3⟩;show (if b=c\/b=Wg then none else V5.own b)=some y;rw[if_neg yX];exact q1
 have n9:ji x deep Hs E c Wg rv dv fv [(5,.op (Hs.length+3) 0),(4,.op (Hs.length+2) 0)] [] (E5.frame f6) V6 (a5.put none undef):=by
  refine⟨⟨Ia,cu.ah.tok.frame _,cu.ah.size⟩,cu.lo.trans (Env.F1 E5 f6),cu.main,cu.defers,cu.deaf,cu.er,cu.ed,cu.ef,cu.dr.frame f6,cu.dd.frame f6,cu.df.frame f6,λb y e=> ?_,cu.ne⟩;obtain⟨q1,q2,q3⟩:=cu.fr b y e;refine⟨?_,q2,q3⟩;show (if b=c\/b=Wg then none else E5.fr b)=some y;rw[if_neg (λe=>e.elim q2 q3)];exact q1
 show WP true SC none (.seq (cf (cs (cs mb))) (cs (cs (cs mb)))) Q (a5.put none undef) V6;refine wp_seq ?_;refine n9.to (jd Hs) (gZ Hs Kn.zero) ?_ λE7 V7 a7 og BH=> ?_
 ·show aU true SC none 35 (cf (cs (cs mb))) _ _;unfold jd dn gZ;refine ak ?_;exact fF (by simp only[seval];simp[bA,Wk.refl]) rfl
 refine wp_block (id:=2) (c:=.loop St) ?_;have cN:DI x deep (p+1) Hs E c Wg rv dv fv [] Kn.zero (jd Hs) [] E7 V7 a7:=⟨by rw[SY];exact BH,by rw[og.role,apQ],.nil,Cx,WJ,λj hj=>by cases hj⟩;refine wp_loop (λm a' V'=>∃E' js D,m=p+1-js.length/\DI x deep (p+1) Hs E c Wg rv dv fv js D (jd Hs) [] E' V' a') _ ⟨E7,[],Kn.zero,rfl,cN⟩ λm a8 V8 hI=> ?_;obtain⟨E8,js,D,rfl,h8⟩:=hI;have hlen:∀js:List Nat,js.Nodup->(∀j∈js,j<p+1)->js.length<=p+1:=λjs hn hl=>by
  have:=hn.length_le_of_subset (l₂:=S0 (p+1)) λj hj=>by simpa using hl j hj
  simpa using this
 refine alx hx hA (by omega) yP ce h8 (λj D' E9 V9 a9 hj h9=> ?_) λE9 V9 a9 G ai9 LJ Ip Ib My w5 fy=> ?_
 ·have h1:=hlen _ h9.nodup h9.lt;simp only[SQ,T7]at h1;exact⟨p+1-(js++[j]).length,by simp;omega,E9,js++[j],D',rfl,h9⟩
 ·have Kw:js.Perm (S0 (p+1)):=by
   refine(List.perm_ext_iff_of_nodup h8.nodup XU).2 λk=> ?_;rw[TG];exact⟨h8.lt k,fy k⟩
  exact hQ js D E9 V9 a9 G Kw h8.Sk h8.kn ai9 LJ Ip Ib My w5
end
theorem ahO{x:ai}{deep:Int}{p:Nat}{H:List aa}{k kp:AV->List aa->Prop}(hx:x.Ok)(hA:wH x)(hp:x.am=p)(hm:H[0]?=some .main)(hk:∀js D L,js.Perm (S0 (p+1))->nM x deep js D->bI D->L.length=5->k (.agg (D.l (H.length+5))) (H++(L++[setH D.aL]))):bc true SC 77 H [x.av,iv deep] k kp:=by
 intro E V vs hc hd;have hEm:E.main=true:=hc.obj 0 _ hm;obtain⟨iZ,t_⟩:=hc.top hEm;have hn:E.n=H.length:=hc.n;refine Oa (by simp) F.f77 rfl ?_;have sw:At (E.ff false) V ⟨[(0,x.av),(1,iv deep)],H.map strip⟩ {tmps:=vs++TL (XJ.ntmps-vs.size) undef,defers:=[]} 35:=by
  have:=AZ (nt:=35) hc hd (by simp);exact⟨hc.af6,this.tok.ff false,this.size⟩
 have hlen:(H.map strip).length=H.length:=Tn _;have Kq:bM (H.map strip):=sw.bm.ay
 suffices oV:∀Hs,H.map strip=Hs->WP true SC none uv (Ends SC XJ (gI E V k kp)) {tmps:=vs++TL (XJ.ntmps-vs.size) undef,defers:=[]} V from oV _ rfl
 intro Hs ce;rw[ce]at sw hlen Kq;have Qk:({tmps:=vs++TL (XJ.ntmps-vs.size) undef,defers:=[]}:Act).defers=[]:=rfl;generalize({tmps:=vs++TL (XJ.ntmps-vs.size) undef,defers:=[]}:Act)=a0 at sw Qk;have bN:x.l=[iv x.first,iv x.hours,iv x.am,dN x.seen,aY x.pieces,aY x.aC]:=rfl;refine wp_seq (x:=cf uv) (y:=cs uv) ?_;refine yw ⟨[(4,.op (Hs.length+2) 0),(3,.op (Hs.length+1) 0),(2,.op Hs.length 0)],Hs++[.cells x.l 76,.cells [iv deep] 3,.cells jg 88]⟩ sw ?_ λE2 V2 a2 cE tW=> ?_
 ·show aU true SC none 35 (cf uv) _ _;simp only[ai.av];refine ak ?_;exact fF (by simp only[seval];simp[bA,Wk.refl]) rfl
 obtain⟨ti,vS⟩:∃i,SC.info? 88=some i:=Option.isSome_iff_exists.1 (by kernel_rfl);refine wp_seq (x:=cf (cs uv)) (y:=cs (cs uv)) (ac4 rfl rfl (anf rfl (d:=.both) (el:=88) (by kernel_rfl) vS λc vB=> ?_));let f3:Nat->Option Obj:=λb=>if b=c then some sf else E2.fr b;have pJ:At (E2.frame f3) (V2.upd c sf) ⟨[(11,.val (.chan (some c))),(4,.op (Hs.length+2) 0),(3,.op (Hs.length+1) 0),(2,.op Hs.length 0)],Hs++[.cells x.l 76,.cells [iv deep] 3,.cells jg 88]⟩ (a2.put (some 11) (.chan (some c))) 35:=
  ⟨tW.bm.aiA vB sf,(tW.tok.frame _).put (by rw[tW.size];omega) (.val _),(dX a2 (some 11) _).trans tW.size⟩
 refine Nd ⟨[(5,.op (Hs.length+3) 0),(4,.op (Hs.length+2) 0),(3,.op (Hs.length+1) 0),(2,.op Hs.length 0)],Hs++[.cells x.l 76,.cells [iv deep] 3,.cells jg 88,.cells [.val (.chan (some c))] 139]⟩ rfl (by kernel_rfl) pJ ?_ λE4 V4 a4 oT qR=> ?_
 ·(try simp only[seval,anu,arL,alG]);exact fF (by simp only[seval];simp[bA,Wk.refl]) rfl
 refine wp_seq (x:=cf (cs (cs uv))) (y:=mb) ?_;refine yw ⟨[(6,.op (Hs.length+4) 0),(5,.op (Hs.length+3) 0),(4,.op (Hs.length+2) 0),(3,.op (Hs.length+1) 0),(2,.op Hs.length 0)],Hs++[.cells x.l 76,.cells [iv deep] 3,.cells jg 88,.cells [.val (.chan (some c))] 139,.cells [.val (.int .u64 0),.val (.int .u32 0)] 147]⟩ qR ?_ λE5 V5 a5 gh j3=> ?_
 ·show aU true SC none 35 (cf (cs (cs uv))) _ _;refine ak ?_;exact fF (by simp only[seval];simp[bA,Wk.refl]) rfl
 obtain⟨wcs,KV,hwo,xI,BK⟩:=j3.bm.aiB (id:=Hs.length+4) (aW _ _ 4);have ak1:=OK (l:=[.int .u64 0,.int .u32 0]) KV;subst ak1;rw[dR]at BK;simp only[UA,TY]at BK;have O0:=j3.arm (t:=6) (id:=Hs.length+4) (off:=0) rfl;have PI:E5.fr=f3:=gh.le.fr.trans oT.le.fr;have vn:E5.fr c=some sf:=by rw[PI];simp[f3]
 have aG:c≠E5.blk (Hs.length+4):=λe=>j3.bm.CL vn (aW Hs _ 4) rfl e.symm;have PJ:∀b y,E.fr b=some y->E5.fr b=some y/\b≠c/\b≠E5.blk (Hs.length+4):=λb y hb=>by
  have h2:E2.fr b=some y:=by rw[cE.le.fr];exact hb
  have yX:b≠c:=λe=>by subst e;have:=(tW.bm.fr b y h2).1;rw[vB.1]at this;cases this
  have h5:E5.fr b=some y:=by rw[PI];simp[f3,yX,h2]
  exact⟨h5,yX,λe=>j3.bm.CL h5 (aW Hs _ 4) rfl e.symm⟩
 generalize yR:E5.blk (Hs.length+4)=Wg at hwo xI BK O0 aG PJ;let f6:Nat->Option Obj:=λb'=>if b'=Wg then some (wgBlock SC 0 0)else E5.fr b';have Qw:Conc (E5.frame f6) V5 (Hs++[.cells x.l 76,.cells [iv deep] 3,.cells jg 88,.cells [.val (.chan (some c))] 139,.gone]):=by
  have:(λb'=>if b'=Wg then some (Obj.cells #[.int .u64 0,.int .u32 0] 147 (0,0))else E5.fr b')=f6:=by
   funext b';simp only[f6,wgBlock,wgT]
  rw[<- this];exact BK
 have BB:At (E5.frame f6) V5 ⟨[(6,.val (pW Wg 0)),(5,.op (Hs.length+3) 0),(4,.op (Hs.length+2) 0),(3,.op (Hs.length+1) 0),(2,.op Hs.length 0)],Hs++[.cells x.l 76,.cells [iv deep] 3,.cells jg 88,.cells [.val (.chan (some c))] 139,.gone]⟩ a5 35:=by
  refine⟨Qw,λt av e=> ?_,j3.size⟩;by_cases ht:t=6
  ·subst ht;cases e;refine⟨by rw[j3.size];omega,?_⟩;have:a5.tmps.getD 6 undef=pW Wg 0:=O0;rw[this];exact .val _
  ·refine(j3.tok.frame f6) t av ?_;simp only[look]at e⊢;rw[if_neg (Ne.symm ht)]at e⊢;exact e
 clear BK Qw;have lo6:E.Lo (E5.frame f6):=((((E.amc false).trans cE.le.lo).trans (Env.F1 E2 f3)).trans (oT.le.lo.trans gh.le.lo)).trans (Env.F1 E5 f6);have LO:(E5.frame f6).main=false:=gh.le.main.trans (oT.le.main.trans cE.le.main);have af3:a5.defers=[]:=gh.defers.trans (oT.defers.trans ((put_defers a2 _ _).trans (cE.defers.trans Qk)));have ro6:V5.role=.plain:=gh.role.trans (oT.role.trans (cE.role.trans iZ));have de6:V5.deaf=0:=gh.deaf.trans (oT.deaf.trans (cE.deaf.trans t_));have I4:(E5.frame f6).fr c=some sf:=by show f6 c=_;simp only[f6,if_neg aG];exact vn
 have I5:(E5.frame f6).fr Wg=some (wgBlock SC 0 0):=by show f6 Wg=_;simp[f6]
 have PK:∀b y,E.fr b=some y->(E5.frame f6).fr b=some y/\b≠c/\b≠Wg:=λb y hb=>by
  obtain⟨q1,q2,q3⟩:=PJ b y hb;refine⟨?_,q2,q3⟩;show f6 b=_;simp only[f6,if_neg q3];exact q1
 generalize E5.frame f6=E6 at BB lo6 LO I4 I5 PK;obtain⟨V7,g7,o7,r7,d7,vX,D8,OD⟩:=BB.bm.Gw (id:=Hs.length) (aW _ _ 0) 6 (by simp[bN]);rw[show Hs.length=Hs.length+0 from rfl,dR]at D8;simp only[TY]at D8;have acF:=BB.tok.mono vX;generalize hE7:({E6 with I:=V7.ab}:Env)=E7 at vX D8 OD acF;obtain⟨V8,g8,o8,r8,d8,uw,D9,OE⟩:=D8.Gw (id:=Hs.length+1) (aW _ _ 1) 1 (by simp);rw[dR]at D9;simp only[UA,TY]at D9;have acG:=acF.mono uw;generalize hE8:({E7 with I:=V8.ab}:Env)=E8 at uw D9 OE acG;obtain⟨V9,g9,o9,r9,d9,ux,wS,If⟩:=D9.Gw (id:=Hs.length+3) (aW _ _ 3) 1 (by simp);rw[dR]at wS;simp only[UA,TY]at wS;have acH:=acG.mono ux;generalize hE9:({E8 with I:=V9.ab}:Env)=E9 at ux wS If acH;refine WP.ghost g7 (WP.ghost g8 (WP.ghost g9 ?_));have LJ:E.Lo E9:=lo6.trans ((vX.trans uw).trans ux).lo;have My:V9.role=.plain:=r9.trans (r8.trans (r7.trans ro6));have Ib:V9.deaf=0:=d9.trans (d8.trans (d7.trans de6));have w5:E9.fr=E6.fr:=ux.fr.trans (uw.fr.trans vX.fr);have n6:E6.n=Hs.length+5:=by rw[BB.bm.n];simp
 have b7:∀k,k<Hs.length+5->E9.blk k=E6.blk k/\E9.blk k=E7.blk k/\E9.blk k=E8.blk k:=λk hk=>by
  have n7:=vX.n;have n8:=uw.n;have q7:=vX.blk k (by omega);have q8:=uw.blk k (by omega);have q9:=ux.blk k (by omega);exact⟨by rw[q9,q8,q7],by rw[q9,q8],q9⟩
 obtain⟨c1,c2,c3⟩:=wS.fr c sf (by rw[w5];exact I4);obtain⟨v1,v2,v3⟩:=wS.fr Wg _ (by rw[w5];exact I5);refine arz (c:=c) (Wg:=Wg) rfl My aG c1 (by rw[v1];simp) v2 ?_;let HD:View:={V9 with role:=.fork c Wg []};have afU:Conc (E9.frame E9.fr) HD (Hs++(dn x deep c++[])):=by
  refine wS.xZ (V':=HD) _ rfl (λ_ _ _ _ _ _ h=>h) (λg hg=> ?_) (λg hg=> ?_) (λhm=>by rw[ux.main,uw.main,vX.main,LO]at hm;cases hm) wS.fr
  ·cases hg;exact⟨by show V9.own Wg≠none;rw[v1];simp,v2,v3⟩
  ·cases hg;exact⟨by show V9.own c≠none;rw[c1];simp,c2,c3⟩
 have dr9:ap E9 (.rp x.l) (.pointer (some ⟨E9.blk Hs.length,0,none⟩)):=by
  have h7:=(OD.mono uw).mono ux;rw[<- (b7 Hs.length (by omega)).1]at h7;rwa [SW (by simp[bN])]at h7
 have dd9:ap E9 (.rp [iv deep]) (.pointer (some ⟨E9.blk (Hs.length+1),0,none⟩)):=by
  have h8:=OE.mono ux;rw[<- (b7 (Hs.length+1) (by omega)).2.1]at h8;exact h8
 have Ip:ap E9 (.rp [.val (.chan (some c))]) (.pointer (some ⟨E9.blk (Hs.length+3),0,none⟩)):=by
  rw[<- (b7 (Hs.length+3) (by omega)).2.2]at If;exact If
 have Kk:ji x deep Hs E c Wg (.pointer (some ⟨E9.blk Hs.length,0,none⟩)) (.pointer (some ⟨E9.blk (Hs.length+1),0,none⟩)) (.pointer (some ⟨E9.blk (Hs.length+3),0,none⟩)) [(6,.val (pW Wg 0)),(5,.op (Hs.length+3) 0),(4,.op (Hs.length+2) 0),(3,.op (Hs.length+1) 0),(2,.op Hs.length 0)] [] E9 HD a5:=
  ⟨⟨afU,acH,BB.size⟩,LJ,ux.main.trans (uw.main.trans (vX.main.trans LO)),af3,Ib,rfl,rfl,rfl,dr9,dd9,Ip,λb y hb=>by rw[w5];exact PK b y hb,aG⟩
 refine aly hx hA hp (by omega) Kq ⟨Kk,rfl,by rw[w5];exact I4,by rw[w5];exact I5⟩ λjs D E11 V11 a11 G Kw jv bZ Qm amb af2 afZ aoS aiz=> ?_;subst ce;have bS:=Kn.len bZ (H.length+5);let L5:List aa:=[.part 6 x.l 76,.part 1 [iv deep] 3,.cells (D.l (H.length+5)) 88,.part 1 [.val (.chan (some c))] 139,.gone];rw[hlen]at Qm;refine⟨af2,aoQ (P:=SC) (rs:=[.cell 4 88]) (H:=H) (L:=L5++[setH D.aL]) (G:=G) (T:=[(4,.op (H.length+2) 0)]) (av:=.agg (D.l (H.length+5))) rfl Qm amb hc (aoS.trans iZ.symm) (afZ.trans t_.symm) aiz ?_ rfl ?_ ?_ (hk js D L5 Kw jv bZ rfl)⟩
 ·have hg:(H.map strip++(L5++[setH D.aL]++G))[H.length+2]?=some (.cells (D.l (H.length+5)) 88):=by
   have:=aW (H.map strip) (L5++[setH D.aL]++G) 2;rw[hlen]at this;exact this
  have aF:T_ 28 (D.l (H.length+5))=D.l (H.length+5):=SW (by omega);generalize hLG:H.map strip++(L5++[setH D.aL]++G)=LG at hg;try simp only[seval,gO,uF,hg,bS,aF,aa.cellsOf]
 ·have hl:H.length=(H.map strip).length:=hlen.symm;intro y hy;have ajY:(H.map strip++(L5++[setH D.aL])).length=H.length+6:=by simp[L5]
  rw[ajY];rcases SS.1 hy with h|h
  ·exact(Kq y h).mono (by omega)
  ·simp only[L5,SL,SS,S4,or_false]at h;rcases h with(rfl|rfl|rfl|rfl|rfl)|rfl
   ·exactλa ha=>F5 x _ a ha
   ·intro a ha;simp at ha;subst ha;exact .val _
   ·exact xL (by omega)
   ·intro a ha;simp at ha;subst ha;exact .val _
   ·trivial
   ·trivial
 ·refine .agg λa ha=> ?_;exact xL (by simp[L5]) a ha
namespace Tk
theorem QT{x:ai}{bf:Nat}(h0:0<=x.first)(h90:x.first<=90)(hp:0<=x.am/\x.am<=3):∀(d:Nat)(pre:List Int),pre.length+d<=4->pre.head?=some x.first->(∀a∈pre,x.first<=a/\a<=x.first+3* (pre.length-1:Nat))->∀h∈mF x bf d pre,h.length=4/\h.head?=some x.first/\∀a∈h,x.first<=a/\a<=x.first+9
 |0,pre,hl,hh,ha,h,hm=>by
  unfold mF at hm;split at hm
  ·rw[S8]at hm;subst hm;have aG:pre≠[]:=λe=>(by rw[e]at hh;cases hh);have cR:0<pre.length:=Vq.2 aG;have ue:pre.getLastD 0∈pre:=by
    rw[Vf,XL aG];exact Zm aG
   refine⟨by simp[cH];omega,by rw[cH,WK,hh];rfl,λa hm=> ?_⟩;have Kf:a∈pre:=by
    rcases SS.1 hm with h|h
    ·exact h
    ·rw[(Xu.1 h).2];exact ue
   have:=ha a Kf;omega
  ·cases hm
 |d+1,pre,hl,hh,ha,h,hm=>by
  unfold mF at hm;split at hm
  ·obtain⟨n,hn,hm⟩:=S7.1 hm;have ky:n<x.am.toNat+1:=(by simpa using hn);split at hm
   ·cases hm
   ·have aG:pre≠[]:=λe=>(by rw[e]at hh;cases hh);have cR:0<pre.length:=Vq.2 aG;have ue:pre.getLastD 0∈pre:=by
     rw[Vf,XL aG];exact Zm aG
    refine QT h0 h90 hp d _ (by simp;omega) (by rw[WK,hh];rfl) (λa Kf=> ?_) h hm;rw[SQ,T7];rcases SS.1 Kf with h'|h'
    ·have:=ha a h';omega
    ·rw[S8]at h';subst h';have:=ha _ ue;omega
  ·cases hm
theorem QP{x:ai}{bf:Nat}(hx:x.Ok){h:List Int}(hm:h∈kx x bf):mo h:=by
 have hf:=hx.first;have hh:=hx.hours;have hp:=hx.am;obtain⟨h1,h2,h3⟩:=QT (bf:=bf) hf.1 hf.2 ⟨by omega,hp.2⟩ x.hours.toNat [x.first] (by simp;omega) rfl (λa ha=>by rw[S8]at ha;subst ha;simp) h hm;refine⟨h1,λa ha=>by have:=h3 a ha;omega,λa ha=>by have:=h3 a ha;omega,?_⟩
 match h,h1,h2,h3 with
 |[a,b,c,d],_,h2,h3=>
  have ha:a=x.first:=by simpa using h2
  have:=h3 d (by simp);simp;omega
theorem aaV:∀{qs:List Nat}{u:Nat}{t ns:List Nat},ns∈kD qs u t->∃l,ns=t++l/\l.length=qs.length/\∀(i n q:Nat),l[i]?=some n->qs[i]?=some q->n<9/\q.testBit n=true
 |[],u,t,ns,h=>by
  simp only[kD,S8]at h;exact⟨[],by simp[h],rfl,λi n q h1=>by cases h1⟩
 |q::qs,u,t,ns,h=>by
  simp only[kD,S7]at h;obtain⟨n,hn,h⟩:=h;split at h
  ·cases h
  ·rename_i hc;obtain⟨l,h1,h2,h3⟩:=aaV h;refine⟨n::l,by rw[h1];simp,by simp[h2],λi m q' h4 h5=> ?_⟩
   match i with
   |0=>
    cases h4;cases h5;refine⟨by simpa using hn,?_⟩;simp at hc;exact hc.2
   |i+1=>exact h3 i m q' h4 h5
theorem aa6{k:Nat}{ns:List Nat}:∀{qs:List Nat}{u:Nat}{t os:List Nat},os∈mf k ns qs u t->∃l,os=t++l/\l.length=qs.length/\∀n∈l,n<k
 |[],u,t,os,h=>by
  simp only[mf,S8]at h;exact⟨[],by simp[h],rfl,λn h1=>by cases h1⟩
 |q::qs,u,t,os,h=>by
  simp only[mf,S7]at h;obtain⟨n,hn,h⟩:=h;split at h
  ·cases h
  ·obtain⟨l,h1,h2,h3⟩:=aa6 h;refine⟨n::l,by rw[h1];simp,by simp[h2],λm hm=> ?_⟩;rcases SL.1 hm with rfl|hm
   ·simpa using hn
   ·exact h3 m hm
theorem MW:∀{h:List Int}{i:Nat}{n a:Int},h.head?=some a->a<=n->n<h.getLastD 0->0<=ft i h n
 |[],i,n,a,h1,_,_=>by cases h1
 |[b],i,n,a,h1,h2,h3=>by
  simp at h1 h3;omega
 |b::c::l,i,n,a,h1,h2,h3=>by
  have:b=a:=by simpa using h1
  subst this;unfold ft;split
  ·omega
  ·rename_i hc;exact MW (a:=c) rfl (by omega) (by simpa[Vf]using h3)
theorem aq1{x:ai}{h:List Int}{ns os:List Nat}(hx:x.Ok)(hh:mo h)(hn:ns∈fS x h)(ho:os∈hO x h ns):jj x (dx h ns os):=by
 obtain⟨l,e1,e2,e3⟩:=aaV hn;simp only[UC]at e1;subst e1;obtain⟨m,g1,g2,g3⟩:=aa6 ho;simp only[UC]at g1;subst g1;rw[Tn]at e2 g2;have h4:=hh.len;have Fi:=hx.c_;have o0:=hx.eF;have Ci:(dx h ns os).take 4=h:=by
  unfold dx;rw[SD,Tx (by omega),SW (by omega)]
 have dl:(lg 4 ns).length=4:=zU (by omega);have hg:∀p,p<ns.length->(dx h ns os)[4+p]?=(ns[p]?).map λn:Nat=>(n:Int):=λp hp=>by
  unfold dx;rw[SD,Tj (by omega),SZ (by omega),h4,U6];unfold lg;rw[SZ (by simpa using hp),To]
 refine⟨by simp[dx,h4,dl,zU (k:=3) (l:=os) (by omega)],by rw[Ci];exact hh,λp hp=> ?_,λs hs=> ?_⟩
 ·obtain⟨n,B8⟩:=cy (xs:=ns) (i:=p) (by omega);obtain⟨y,hy⟩:=cy hp;obtain⟨q1,q2⟩:=e3 p n (bW h y) B8 (by rw[To,hy];rfl);refine⟨n,by rw[hg p (by omega),B8];rfl,q1,?_⟩;rw[Ci];unfold bW at q2;rw[A0]at q2;simp only[Tc,lw,decide_eq_true_eq]at q2;obtain⟨a,b,c,d,rfl,_⟩:=hh.out;have e0:(dx [a,b,c,d] ns os).getD 0 0=a:=rfl;rw[e0];have:=q2.2.1.1;simp at this;exact MW (a:=a) rfl (by omega) (by simp;omega)
 ·obtain⟨o,Ks⟩:=cy (xs:=os) (i:=s) (by omega);refine⟨o,?_,by have:=g3 o (Te Ks);omega⟩;unfold dx;rw[Tj (by simp[h4,dl]),show (h++lg 4 ns).length=8 by simp[h4,dl],U6];unfold lg;rw[SZ (by have:=eM Ks;simpa using this),To,Ks];rfl
end Tk
theorem Dc{x:ai}(hx:x.Ok):wH x:=λbf _ h hm=>by
 have hh:=QP hx hm;refine⟨hh,λns iX a ha=> ?_⟩;obtain⟨os,h1,rfl⟩:=Tm.1 ha;exact aq1 hx hh iX h1
open Go.Conc
section
variable {lv:Bool}{P:SJ}{s:AS}{ms:List Nat}{bs:List UV}{nt:Nat}
theorem aim{f:TQ}{fn:ZP}{c0 c1 c2:T5}{rs:List UM}{H:List aa}{args:List AV}{k kp:AV->List aa->Prop}(hf:P.funcs[f]?=some fn)(hb:fn.body=some (.seq c0 (.seq c1 c2)))(hr:fn.results=rs.toArray)(hn:fn.ntmps=nt)(cK:args.length<=nt)
  (h:bM H->(∀a∈args,Lt H.length a)->aU lv P none nt c0 ⟨bk 0 args,H⟩ λe s0=>e=.normal/\Al lv P nt c1 s0 [] (λe s' na=>e=.normal/\∃c,na=[c]/\∀bs,kg lv P nt bs c2 s' [] (yk lv P rs H.length c k kp))):bc lv P f H args k kp:=by
 intro E V vs hc hd;have hlt:∀a∈args,Lt H.length a:=λa ha=>by
  obtain⟨i,hi⟩:=pc ha;rw[<- hc.n];exact(hd.2 i a hi).lt
 have ah:=AZ (nt:=nt) hc hd cK;refine afE (by simp) hf hb ?_;rw[hn];refine wp_seq (h hc.ay hlt E V _ _ ah λae e E0 V0 a0 s0 zg sw he0 hΦ0=> ?_);obtain⟨rfl,xH⟩:=hΦ0;cases e<;>first
  |exact he0.elim
  |skip
 have ajz:a0.defers=[]:=zg.defers;refine wp_seq (xH E0 V0 a0 _ sw (by rw[ajz];trivial) λae e E1 V1 a1 s1 ds1 ajV vu c9 BO hΦ1=> ?_);obtain⟨rfl,c,rfl,hw⟩:=hΦ1;have ik:=zg.d.trans ajV;cases e<;>first
  |exact BO.elim
  |skip
 obtain⟨d,iW,bi⟩:∃d,a1.defers=[d]/\ye E1 c d:=by
  match iW:a1.defers,c9 with
  |[d],c9=>exact⟨d,rfl,c9.1⟩
  |[],c9=>exact c9.elim
  |_::_::_,c9=>exact c9.2.elim
 refine hw [d] E1 V1 a1 _ vu ⟨by simp[iW],by simp⟩ λae e E' V' a' s' cz hk aS fO he hΦ=> ?_;have hle:E.Le E':=ik.le.trans hk.le;have fin:∀(md:U5)(m:Option AV)(H':List aa),(md matches .run)=false->iC cz s'.H=some H'->Nr E' m md->qt lv P c H' m (λH'=>ao (gO P ⟨s'.T,H'⟩ rs) λl=>cD H.length H' (iN l) k) (λH'=>∀pv,m=some pv->cD H.length H' pv kp)->tD lv P fn (gI E V k kp) a'.defers md a'.tmps V':=by
  intro md m H' pU hg Ra hD;refine acU pU cz _ H' E' V' _ hg aS.bm fO λV2 r1 r2 cM=> ?_;have ajw:=bi.mono hk.le;refine⟨pU,.inr ⟨?_,?_⟩⟩
  ·obtain⟨f,first,cQ,fa,ca,vs,h1,rfl,h3,h4,h5⟩:=bi;exact⟨_,_,rfl⟩
  ·refine(hD E' V2 d md cM ajw Ra).mono (λnx aR hx=> ?_) λ_ _ h=>h;obtain⟨g,args,rfl,Bq⟩:=hx;refine⟨g,args,rfl,Bq.mono λnF V3 hx=> ?_⟩;obtain⟨E3,H3,q1,q2,q3,q4,q5|q5⟩:=hx
   ·obtain⟨rfl,q5⟩:=q5;exact abv (s':=⟨s'.T,H3⟩) (a':=a') hr ⟨q4,aS.tok.mono q1,aS.size⟩ (hle.trans q1) hc.n (q2.trans (r1.trans (hk.role.trans ik.role))) (q3.trans (r2.trans (hk.deaf.trans ik.deaf))) q5
   ·obtain⟨rfl,ug,q5⟩:=q5;cases m with
    |none=>cases ug
    |some pv=>
     obtain⟨v,rfl,nz⟩:=Ra;obtain⟨b,bO,tp,t1,t2,t3,t4⟩:=wU (q5 pv rfl) q4 (nz.mono q1) (hle.trans q1) hc.n;exact⟨b,v,bO,tp,rfl,t1,q2.trans (r1.trans (hk.role.trans ik.role)),q3.trans (r2.trans (hk.deaf.trans ik.deaf)),t2,t3,t4⟩
 have aic:yk lv P rs H.length c k kp .ret s' cz->tD lv P fn (gI E V k kp) a'.defers .returning a'.tmps V':=λhΦ=>by
  obtain⟨H',hg,hΦ⟩:=ao.out hΦ;refine fin .returning none H' rfl hg rfl λE2 V2 d2 LQ c1 c2 c3=> ?_;refine(hΦ E2 V2 d2 LQ c1 c2 c3).mono (λnx aR hx=> ?_) λ_ _ h=>h;obtain⟨g,args,rfl,Bq⟩:=hx;refine⟨g,args,rfl,Bq.mono λnF V3 hx=> ?_⟩;obtain⟨E3,H3,q1,q2,q3,q4,q5|q5⟩:=hx
  ·exact⟨E3,H3,q1,q2,q3,q4,.inl q5⟩
  ·exact q5.2.2.elim
 cases ae<;>cases e<;>first
  |exact he.elim
  |exact aic hΦ
  |exact hΦ.elim
  |skip
 rename_i pv ch;obtain⟨v,eS,ajx⟩:∃v,ch=[{v,recovered:=false}]/\ap E' pv v:=he;subst eS;obtain⟨H',hg,hΦ⟩:=ao.out hΦ;refine fin _ (some pv) H' rfl hg ⟨v,rfl,ajx⟩ λE2 V2 d2 LQ c1 c2 c3=> ?_;refine(hΦ E2 V2 d2 LQ c1 c2 c3).mono (λnx aR hx=> ?_) λ_ _ h=>h;obtain⟨g,args,rfl,Bq⟩:=hx;refine⟨g,args,rfl,Bq.mono λnF V3 hx=> ?_⟩;obtain⟨E3,H3,q1,q2,q3,q4,q5|q5⟩:=hx
 ·exact⟨E3,H3,q1,q2,q3,q4,.inl q5⟩
 ·exact⟨E3,H3,q1,q2,q3,q4,.inr ⟨q5.1,q5.2.1,λpv' e=>by cases e;exact q5.2.2⟩⟩
end
open Go.Proofs Go.Gg.Tk
namespace Tk
def vd (x:ai):Bool:=(S0 (x.am.toNat+1)).any λbf=>(kx x bf).any λh=> !(jf x 0 h).isEmpty
end Tk
def uC:AV:=.cX 136 (.agg [])
section
variable {lv:Bool}{H:List aa}{kr kp:List aa->Prop}
theorem ahY{r:Nat}(h:∀L,kr (H++L)):qt lv SC (.fn (.func 95) [] [.op r 0],[]) H none kr kp:=by
 refine OA (nt:=9) (by kernel_rfl) F.f95 rfl rfl rfl rfl rfl rfl rfl rfl (by kernel_rfl) (by simp) ?_;simp only[bk,SX,UC,Vl];(try simp only[seval,F.Lf]);refine d_ (a:=[]) rfl ⟨rfl,by decide,by simp,?_⟩;refine ak ?_;refine aE ?_;refine aeY ?_;exact .inl (h _)
theorem ahZ{r:Nat}{a:AV}(hr:H[r]?=some (.cells [a] 4))(h:∀L,kr (H.set r (.cells [bv true] 4)++L)):qt lv SC (.fn (.func 95) [] [.op r 0],[]) H (some uC) kr kp:=by
 refine OA (nt:=9) (by kernel_rfl) F.f95 rfl rfl rfl rfl rfl rfl rfl rfl (by kernel_rfl) (by simp) ?_;simp only[bk,SX,UC,S9,uC];(try simp only[seval,F.Lf]);have ul:=eM hr;have xB:∀L:List aa,(H++L)[r]?=some (.cells [a] 4):=λL=>fI hr;refine ak ?_;refine aE ?_;refine aj ?_;simp only[seval,xB,uJ ul];exact .inl (h _)
end
def qG (x:ai)(m:Lp)(h:List Int):dA Lp:=if(jf x 0 h).isEmpty then .go .ready else .bad .busy
theorem Oh{x:ai}:∀(l:List (List Int)),bC (qG x) l .ready=if l.any (λh=> !(jf x 0 h).isEmpty)=true then .bad .busy else .go .ready
 |[]=>by simp[bC]
 |h::l=>by
  have ih:=Oh (x:=x) l;by_cases he:(jf x 0 h).isEmpty=true
  ·have e1:qG x .ready h=.go .ready:=(by unfold qG;rw[if_pos he]);rw[bC,e1];dsimp only;rw[ih];simp only[YP,he,ai_,XR]
  ·have e1:qG x .ready h=.bad .busy:=(by unfold qG;rw[if_neg he]);rw[bC,e1];dsimp only;have e2:(jf x 0 h).isEmpty=false:=(by simpa using he);simp only[YP,e2,YB,ae_,if_true]
theorem afb(l:List (List Int)):bC (λ(_:Lp) (_:List Int)=>(.bad .busy:dA Lp)) l .ready=if l.isEmpty then .go .ready else .bad .busy:=by
 cases l<;>rfl
def A5 (x:ai)(i:Nat):List aa:=[.cells x.l 76,.cells [iv i] 3,.obj (.deferred (some [])),.gone]
def ko (x:ai)(H:List aa):Nat->List aa
 |0=>H++[.cells x.l 76,.cells [bv false] 4]
 |i+1=>ko x H i++A5 x i
def wQ (H:List aa):Nat->List Nat
 |0=>[]
 |i+1=>(H.length+2+4* i+2)::wQ H i
theorem H6(x:ai)(H:List aa):∀i,(ko x H i).length=H.length+2+4* i
 |0=>by simp[ko]
 |i+1=>by simp[ko,A5,H6 x H i];omega
theorem Og(x:ai)(H:List aa):∀i,∃Y,ko x H i=H++[.cells x.l 76,.cells [bv false] 4]++Y
 |0=>⟨[],by simp[ko]⟩
 |i+1=>by
  obtain⟨Y,h⟩:=Og x H i;exact⟨Y++A5 x i,by rw[ko,h,SD]⟩
theorem H5(x:ai)(H:List aa):∀(i:Nat)(L:List aa),∃Y,iC (wQ H i) (ko x H i++L)=some (H++[.cells x.l 76,.cells [bv false] 4]++Y)
 |0,L=>⟨L,by rw[wQ,yN,ko]⟩
 |i+1,L=>by
  have hl:=H6 x H i;have e:(ko x H (i+1)++L)=ko x H i++(A5 x i++L):=by rw[ko,SD]
  have hg:(ko x H i++(A5 x i++L))[H.length+2+4* i+2]?=some (.obj (.deferred (some []))):=by rw[<- hl,aW];rfl
  obtain⟨Y,hY⟩:=H5 x H i ([.cells x.l 76,.cells [iv i] 3,.gone,.gone]++L);refine⟨Y,?_⟩;rw[wQ,e,yM hg,<- hl,dR];exact hY
theorem Of(x:ai)(H:List aa)(i:Nat)(L:List aa):(ko x H i++L)[H.length]?=some (.cells x.l 76)/\(ko x H i++L)[H.length+1]?=some (.cells [bv false] 4):=by
 obtain⟨Y,h⟩:=Og x H i;rw[h,SD,SD];exact⟨aW H _ 0,aW H _ 1⟩
section
variable {lv:Bool}
theorem ais{P:SJ}(rs:List UM)(n:Nat)(c:AV×List AV)(k kp:AV->List aa->Prop)(pv:AV)(s:AS)(ms:List Nat):yk lv P rs n c k kp (.panic pv) s ms=ao (iC ms s.H) λH'=>qt lv P c H' (some pv) (λH'=>ao (gO P ⟨s.T,H'⟩ rs) λl=>cD n H' (iN l) k) (λH'=>cD n H' pv kp):=by rw[yk]
theorem ait{P:SJ}(rs:List UM)(n:Nat)(c:AV×List AV)(k kp:AV->List aa->Prop)(s:AS)(ms:List Nat):yk lv P rs n c k kp .ret s ms=ao (iC ms s.H) λH'=>qt lv P c H' none (λH'=>ao (gO P ⟨s.T,H'⟩ rs) λl=>cD n H' (iN l) k) (λ_=>False):=by rw[yk]
theorem ahL{H:List aa}{k kp:AV->List aa->Prop}{x:ai}(hx:x.Ok)(hk:k (bv (vd x)) H):bc lv SC 71 H [x.av] k kp:=by
 refine aim (rs:=[.cell 2 4]) (nt:=24) F.f71 rfl rfl rfl (by simp) λhH hA=> ?_;simp only[bk,SX,ai.av];have Jb:=Dc hx;have hp:=hx.am;obtain⟨p,ew⟩:∃p:Nat,x.am=p:=⟨x.am.toNat,by omega⟩;have bN:x.l=[iv x.first,iv x.hours,iv x.am,dN x.seen,aY x.pieces,aY x.aC]:=rfl;have aQ:∀(L:List aa),(H++L)[H.length]?=L[0]?:=λL=>aW H L 0;have hw:SE.wrap (x.am+1)=((p+1:Nat):Int):=by rw[ew,bG _ (by omega)];rfl
 refine aj ?_;simp only[seval,F.Ny];refine N1 (n:=1) rfl rfl rfl rfl rfl rfl (by kernel_rfl) ?_;(try simp only[seval,T8,Uz,Uh,TP]);refine⟨⟨_,_,_,rfl⟩,_,rfl,λbs=> ?_⟩;refine D3 ?_;refine r_ ?_;refine aj ?_;simp only[seval,aQ,bN,hw];refine wN ?_;refine N2 (measure λi=>p+1-i).wf (λi:Nat=>⟨[(10,iv i),(9,iv ((p+1:Nat):Int)),(2,.op (H.length+1) 0),(1,.op H.length 0)],ko x H i⟩) (λi=>wQ H i) (λi=>i<=p+1/\∀j,j<i->∀h∈kx x j,(jf x 0 h).isEmpty=true) 0 (fF (by simp only[seval];simp[bA,Wk.refl]) rfl) rfl ⟨by omega,λj hj=>by omega⟩ λi ay=> ?_;obtain⟨oe,fl⟩:=ay;have cL:=H6 x H i;have n5:=λL=>(Of x H i L).1;have xe:=λL=>(Of x H i L).2;obtain⟨N,hN⟩:∃N,N=H.length+2+4* i:=⟨_,rfl⟩;rw[<- hN]at cL;have Qr:(ko x H i)[H.length]?=some (.cells x.l 76):=by have:=n5 [];rwa [SY]at this
 refine r_ ?_;refine ak ?_;refine r_ ?_;refine aE ?_;refine⟨λh=> ?_,λh=> ?_⟩
 ·
  have pM:i<=3:=by omega
  refine aO ?_;refine D3 ?_;refine wN ?_;refine r_ ?_;refine ak ?_;refine r_ ?_;refine aj ?_;simp only[seval,Qr,bN];refine aJ ((IK (x:=x) (n:=i) ?_));rw[cL];(try simp only[seval]);refine wN ?_;refine HU (by rfl) λl fn T ag bo hT xc pK=> ?_;have nm:(ko x H i++[aa.cells x.l 76,aa.cells [iv i] 3]).length=N+2:=by rw[SQ,cL];rfl
  (try simp only[seval]);rw[cL];obtain⟨B,hB⟩:∃B,B=ko x H i:=⟨_,rfl⟩;rw[<- hB]at cL Qr n5 xe⊢;have bg:∀(L:List aa)(j:Nat),(B++L)[N+j]?=L[j]?:=λL j=>by rw[<- cL,aW]
  have D6:∀(L:List aa)(j:Nat)(y:aa),(B++L).set (N+j) y=B++L.set j y:=λL j y=>by rw[<- cL,dR]
  have Qy:∀(M:List aa)(lp:Lp),bM (B++([aa.cells x.l 76,.cells [iv i] 3,.obj (.deferred (some [])),.loop l .ready none fn T 24 #[16] ag bo (N+2)]++M))->bM (B++([aa.cells x.l 76,.cells [iv i] 3,.obj (.deferred (some [])),.loop l lp.st lp.pe fn T 24 #[16] ag bo (N+2)]++M)):=λM lp gV z hz=>by
   have hlen:(B++([aa.cells x.l 76,.cells [iv i] 3,.obj (.deferred (some [])),.loop l lp.st lp.pe fn T 24 #[16] ag bo (N+2)]++M)).length=(B++([aa.cells x.l 76,.cells [iv i] 3,.obj (.deferred (some [])),.loop l .ready none fn T 24 #[16] ag bo (N+2)]++M)).length:=(by simp);have hl:=gV (.loop l .ready none fn T 24 #[16] ag bo (N+2)) (by simp);rw[hlen];rcases SS.1 hz with h'|h'
   ·exact gV z (Tg _ h')
   ·rcases SS.1 h' with h'|h'
    ·simp only[SL,S4,or_false]at h';rcases h' with rfl|rfl|rfl|rfl
     ·exact gV _ (by simp)
     ·exact gV _ (by simp)
     ·exact gV _ (by simp)
     ·exact hl
    ·exact gV z (S5 _ (S5 _ h'))
  have hY:jI lv SC (.fn (.yield l) [] []) (qG x) (λlp:Lp=>B++[.cells x.l 76,.cells [iv i] 3,.obj (.deferred (some [])),.loop l lp.st lp.pe fn T 24 #[16] ag bo (N+2)]) (N+4) (λlp=>lp=.ready) (λh=>mo h/\∀ns∈fS x h,∀a∈(hO x h ns).map (dx h ns),jj x a) uC:=by
   refine⟨λlp h M k kp gk ha dE=> ?_,λlp h CE gk ha he=> ?_,λlp=>by simp[cL],λm lp CE hz z eW=> ?_,rfl,rfl,rfl⟩
   ·replace gk:lp=.ready:=gk;subst gk;obtain⟨oR,Cj⟩:=ha;have h4:=oR.len;have nf:(h.map iv).length=4:=(by rw[Tn,h4]);obtain⟨Lo,kR⟩:∃Lo,Lo=aa.loop l .busy none fn T 24 #[16] ag bo (N+2):=⟨_,rfl⟩;obtain⟨P1,dq⟩:∃P1:List aa,P1=B++([.cells x.l 76,.cells [iv i] 3,.obj (.deferred (some [])),Lo]++M):=⟨_,rfl⟩;have ej:P1.length=N+4+M.length:=(by rw[dq];simp[cL];omega);have pg3:∀(L:List aa),(P1++L)[N+3]?=some Lo:=λL=>(by rw[dq,SD,bg];rfl);have px:∀(L:List aa),(P1++L)[H.length]?=some (.cells x.l 76):=λL=>(by rw[dq,SD];exact n5 _);have pb:∀(L:List aa)(j:Nat),(P1++L)[N+4+M.length+j]?=L[j]?:=λL j=>(by rw[<- ej,aW]);have v_:∀(L:List aa),(P1++L)[N+4+M.length]?=L[0]?:=λL=>pb L 0;have pn:∀(L:List aa)(y:aa),(P1++L).set (N+4+M.length+4) y=P1++L.set 4 y:=λL y=>(by rw[<- ej,dR]);have s3:∀(L:List aa) y,(P1++L).set (N+3) y=B++([.cells x.l 76,.cells [iv i] 3,.obj (.deferred (some [])),y]++M)++L:=λL y=>by
     rw[dq,SD,D6];simp
    subst hT xc pK;rw[SD];refine vc (id:=N+3) (by rw[bg];rfl) rfl (by kernel_rfl) λnX Jc=> ?_;simp only[rM];have vD:Ue 4 [iv 0,iv 0,iv 0,iv 0]=[]:=rfl;refine aj ?_;simp only[seval,h4,vD];unfold tz;refine⟨none,fn,_,24,#[16],_,_,_,by rw[bg];rfl,?_⟩;dsimp only;rw[D6];simp only[UA,TY];rw[<- kR];have w9:B.length+(M.length+1+1+1+1)=N+4+M.length:=(by rw[cL];omega);rw[w9];have xo:∀z:aa,(B++aa.cells x.l 76::aa.cells [AV.val (SG SE ↑i)] 3::aa.obj (atm (some []))::Lo::(M++[z]))=P1++[z]:=λz=>(by rw[dq];simp[iv]);rw[xo];refine aj ?_;simp only[seval,px,bN,v_,h4,nf];rw[SW (i:=4) (l:=h.map iv) (by rw[nf];exact SP _)];refine aJ ((IL (x:=x) (h:=h) (deep:=0) ?_));(try simp only[seval]);refine cI ?_;refine D1 (N+3) (by rfl) (by show (P1++_)[N+3]?=_;rw[pg3,kR]) λl2 eK T2 gw gz nY xd xg=> ?_;simp only[seval];rw[ej];have xb:jI lv SC (.fn (.yield l2) [] []) (λ(_:Lp) (_:List Int)=>(.bad .busy:dA Lp)) (λlp:Lp=>P1++[.cells (h.map iv) 83,.cells x.l 76,.cells (h.map iv) 83,.cells [iv 0] 3,.loop l2 lp.st lp.pe eK T2 24 #[20] gw gz (N+2)]) (N+4+M.length+5) (λlp=>lp=.ready) (λa=>a.length=11) uC:=by
     refine⟨λlp t M2 k2 xM gk ht kX=> ?_,λlp t CE gk ht he=>(by cases he),λlp=>by simp[ej],λq lp CE hz z eW=> ?_,rfl,rfl,rfl⟩
     ·replace gk:lp=.ready:=gk;subst gk;simp only[cU]at kX;have lO:∀(L:List aa),(P1++L)[N+4+M.length+4]?=L[4]?:=λL=>pb L 4;subst nY xd xg;rw[SD];refine vc (id:=N+4+M.length+4) (by rw[lO];rfl) rfl (by kernel_rfl) λqP Jd=> ?_;simp only[rM];refine aO ?_;unfold tz;refine⟨none,eK,_,24,#[20],_,_,_,by rw[lO];rfl,?_⟩;dsimp only;rw[pn];simp only[UA,TY];refine aj ?_;simp only[seval,F.Lf];show cD _ (P1++_) _ xM;rw[SD]at kX;exact bT kX
     ·rcases SS.1 eW with h'|h'
      ·exact hz z (Tg _ h')
      ·have hl:=hz _ (S5 _ (Te (i:=4) rfl));simp only[SL,S4,or_false]at h';rcases h' with rfl|rfl|rfl|rfl|rfl
       ·exact hz _ (S5 _ (by simp))
       ·exact hz _ (S5 _ (by simp))
       ·exact hz _ (S5 _ (by simp))
       ·exact hz _ (S5 _ (by simp))
       ·exact hl
    rw[ej]at nY;have Fe:∀n,Lt n uC:=λn=>(by simp[uC,aao,sV]);refine cJ (IQ (x:=x) (h:=h) (deep:=0) (ir:=N+4+M.length+1) (ih:=N+4+M.length+1+1) (id:=N+4+M.length+1+2) (σ:=Lp.ready) hx oR xb (λlp L=> ?_) (λlp L=> ?_) (λlp L=> ?_) Fe rfl (λa ha=>ha) (λns iX a ha=>(Cj ns iX a ha).len) ?_)
    ·rw[SD];exact pb _ 1
    ·rw[SD];exact pb _ 2
    ·rw[SD];exact pb _ 3
    rw[afb];have lO:∀(L:List aa),(P1++L)[N+4+M.length+4]?=L[4]?:=λL=>pb L 4;by_cases sC:(jf x 0 h).isEmpty=true
    ·rw[if_pos sC];have e1:qG x .ready h=.go .ready:=(by unfold qG;rw[if_pos sC]);rw[e1]at dE;simp only[cU]at dE;simp only[fV,SY];refine⟨.ready,none,_,_,_,_,_,_,_,by rw[lO];rfl,by decide,?_⟩;rw[pn,Gu];(try simp only[seval]);show oF _ _ _ _ _ _ _;refine⟨l,.busy,none,fn,_,24,#[16],_,_,N+2,by show (P1++_)[_]?=_;rw[pg3,kR],?_⟩;show cD (N+4+M.length) ((P1++_).set _ _) _ k;rw[s3];rw[SD]at dE;exact jN (G:=[.cells (h.map iv) 83,.cells x.l 76,.cells (h.map iv) 83,.cells [iv 0] 3,.gone]) (Wk.refl _) (by simp[iv];exact⟨rfl,rfl⟩) (by simp[cL];omega) (Qy M .ready nX) (.val _) dE
    ·rw[if_neg sC];have e1:qG x .ready h=.bad .busy:=(by unfold qG;rw[if_neg sC]);rw[e1]at dE;simp only[cU]at dE;simp only[fV,SY];show cD (N+4+M.length) (P1++_) uC kp;rw[SD]at dE;refine jN (H':=B++([aa.cells x.l 76,.cells [iv i] 3,.obj (.deferred (some [])),.loop l Lp.busy.st Lp.busy.pe fn _ 24 #[16] _ _ (N+2)]++M)) (Wk.refl _) (by rw[dq,kR];rfl) (by simp[cL];omega) (Qy M .busy nX) (Fe _) dE
   ·replace gk:lp=.ready:=gk;subst gk;unfold qG at he;split at he
    ·cases he;rfl
    ·cases he
   ·rcases SS.1 eW with h'|h'
    ·exact hz z (Tg _ h')
    ·have hl:=hz _ (S5 _ (Te (i:=3) rfl));simp only[SL,S4,or_false]at h';rcases h' with rfl|rfl|rfl|rfl
     ·exact hz _ (S5 _ (by simp))
     ·exact hz _ (S5 _ (by simp))
     ·exact hz _ (S5 _ (by simp))
     ·exact hl
  have Fe:∀n,Lt n uC:=λn=>by simp[uC,aao,sV]
  refine cJ (IN (x:=x) (bf:=i) (ir:=N) (it:=N+1) (σ:=Lp.ready) hx hY (λlp L=> ?_) (λlp L=> ?_) pM Fe rfl (λa ha=>Jb i pM a ha) ?_)
  ·rw[SD];exact bg _ 0
  ·rw[SD];exact bg _ 1
  rw[Oh];have bP:SE.wrap ((i:Int)+1)=((i+1:Nat):Int):=by rw[bG _ (by omega)];rfl
  by_cases EF:(kx x i).any (λh=> !(jf x 0 h).isEmpty)=true
  ·rw[if_pos EF];have Jy:vd x=true:=by
    unfold vd;rw[UL];exact⟨i,by rw[TG];omega,EF⟩
   rw[Jy]at hk;simp only[fV,SY];(try simp only[seval,ais]);obtain⟨Y,vr⟩:=H5 x H i [.cells x.l 76,.cells [iv i] 3,.gone,.loop l .busy none fn T 24 #[16] ag bo (N+2)];rw[<- hB]at vr;have hgo:iC ((N+2)::wQ H i) (B++[.cells x.l 76,.cells [iv i] 3,.obj (.deferred (some [])),.loop l Lp.busy.st Lp.busy.pe fn T 24 #[16] ag bo (N+2)])=some (H++[.cells x.l 76,.cells [bv false] 4]++Y):=by
    rw[yM (by rw[bg];rfl),D6];exact vr
   refine d_ hgo ?_;have di:(H++[aa.cells x.l 76,.cells [bv false] 4]++Y)[H.length+1]?=some (.cells [bv false] 4):=(by rw[SD];exact aW H _ 1);refine ahZ di λL=> ?_;have cM:((H++[aa.cells x.l 76,.cells [bv false] 4]++Y).set (H.length+1) (.cells [bv true] 4)++L)[H.length+1]?=some (.cells [bv true] 4):=by
    rw[SD,dR,SD];exact aW H _ 1
   (try simp only[seval,gO,uF,cM,aa.cellsOf]);exact lr hH hk
  ·rw[if_neg EF];simp only[fV,SY];refine⟨.ready,none,_,_,_,_,_,_,_,by show (B++_)[N+3]?=_;rw[bg];rfl,by decide,?_⟩;rw[show N+2+1=N+3 from rfl,D6,Gt];(try simp only[seval]);refine D2 ?_;refine aj ?_;simp only[seval,bP];refine⟨i+1,?_,⟨by omega,λj hj g hm=> ?_⟩,fF (by push_cast;simp only[seval];simp[bA,Wk.refl]) (by rw[hB];rfl),by rw[wQ,hN]⟩
   ·show p+1-(i+1)<p+1-i;omega
   ·by_cases cg:j<i
    ·exact fl j cg g hm
    ·have:j=i:=(by omega);subst this;apply Tu;intro aG;exact EF (UL.2 ⟨g,hm,by simpa using aG⟩)
 ·
  have du:i=p+1:=by omega
  subst du;have Jy:vd x=false:=by
   unfold vd;rw[Bool.eq_false_iff];intro hc;obtain⟨j,h1,h2⟩:=UL.1 hc;obtain⟨h,h3,h4⟩:=UL.1 h2;rw[TG]at h1;have:=fl j (by omega) h h3;rw[this]at h4;cases h4
  rw[Jy]at hk;have Qn:(ko x H (p+1))[H.length+1]?=some (.cells [bv false] 4):=by have:=xe [];rwa [SY]at this
  refine b_ ?_;refine r_ ?_;refine aj ?_;simp only[seval,Qn];rw[qi Qn];refine D2 ?_;refine nS ?_;rw[ait];obtain⟨Y,vr⟩:=H5 x H (p+1) [];rw[SY]at vr;refine d_ vr ?_;refine ahY λL=> ?_;have cM:(H++[aa.cells x.l 76,.cells [bv false] 4]++Y++L)[H.length+1]?=some (.cells [bv false] 4):=by
   rw[SD,SD];exact aW H _ 1
  (try simp only[seval,gO,uF,cM,aa.cellsOf]);exact lr hH hk
end
open Go.Conc Go.Proofs Go.Gg.Tk
section
variable {lv:Bool}{H:List aa}{k kp:AV->List aa->Prop}
theorem sj{n lo hi:Int}(hk:k (bv (decide (n<lo)||decide (n>hi))) H):bc lv SC 59 H [iv n,iv lo,iv hi] k kp:=by
 refine bF (rs:=[.tmp 6]) (nt:=15) Tryz.f59 λhH hA=> ?_;simp only[bk,SX];refine ak ?_;by_cases h:n<lo
 ·have h1:decide (n<lo)=true:=by simpa using h
  refine aj ?_;simp only[seval,h1];refine a_ ?_;rw[h1,ae_]at hk;exact bT hk
 ·have h1:decide (n<lo)=false:=by simpa using h
  refine aj ?_;simp only[seval,h1];refine a_ ?_;rw[h1,XR]at hk;exact bT hk
theorem IE{b:iP}{hi e at':Int}(hb:uP b hi)(hk:k (.val .nilIface) H):bc lv SC 104 H [b.av,iv hi,iv e,iv at'] k kp:=by
 refine bF (rs:=[.tmp 8]) (nt:=33) Tryz.f104 λhH hA=> ?_;simp only[bk,SX,iP.av];have h1:(decide (b.min<0)||decide (b.min>hi))=false:=by have:=hb.min;have:=hb.le;have:=hb.max;simp;omega
 have h2:(decide (b.max<0)||decide (b.max>hi))=false:=by have:=hb.min;have:=hb.le;have:=hb.max;simp;omega
 have h3:decide (b.min>b.max)=false:=by have:=hb.le;simp;omega
 refine ak ?_;refine aj ?_;simp only[seval,iP.l];refine aJ ((sj ?_));(try simp only[seval,h1]);refine aJ ((sj ?_));(try simp only[seval,h2]);refine aE ?_;refine aj ?_;simp only[seval,h3];refine aE ?_;refine aO ?_;refine ak ?_;refine a_ ?_;exact lr hH hk
theorem ahD(hk:k (bv true) H):bc lv SC 52 H [] k kp:=by
 refine bF (rs:=[.tmp 0]) (nt:=1) Tryz.f52 λhH hA=> ?_;simp only[bk,SX];refine ak ?_;refine ak ?_;refine a_ ?_;exact bT hk
theorem ag7{t:AV}(hk:k (bv false) H):bc lv SC 105 H [.val .nilIface,t] k kp:=by
 refine bF (rs:=[.tmp 4]) (nt:=42) Tryz.f105 λhH hA=> ?_;simp only[bk,SX];refine ak ?_;refine aj ?_;simp only[seval,F.Cu];refine aE ?_;refine ak ?_;refine a_ ?_;exact bT hk
theorem ahS(hk:k (iv 0) H):bc lv SC 84 H [.val .nilIface] k kp:=by
 refine bF (rs:=[.tmp 2]) (nt:=9) Tryz.f84 λhH hA=> ?_;simp only[bk,SX];refine ak ?_;refine ak ?_;refine aj ?_;simp only[seval,F.ak8];refine aJ ((ag7 ?_));(try simp only[seval]);refine aE ?_;refine aO ?_;refine ak ?_;refine a_ ?_;exact lr hH hk
theorem ahR{x:ai}{y:Seen}{at':Int}(hh:0<=y.hour/\y.hour<=x.hours)(hb:uP y.next 99)(hk:k (.val .nilIface) H):bc lv SC 83 H [x.av,y.av,iv at'] k kp:=by
 refine bF (rs:=[.tmp 6]) (nt:=19) Tryz.f83 λhH hA=> ?_;simp only[bk,SX,ai.av,Seen.av];have bN:x.l=[iv x.first,iv x.hours,iv x.am,dN x.seen,aY x.pieces,aY x.aC]:=rfl;have h1:(decide (y.hour<0)||decide (y.hour>x.hours))=false:=by simp;omega
 refine aj ?_;simp only[seval,bN,Seen.l];refine ak ?_;refine aJ ((sj ?_));(try simp only[seval,h1]);refine aE ?_;refine aO ?_;refine ak ?_;refine aJ ((IE (b:=y.next) hb ?_));(try simp only[seval]);refine a_ ?_;exact lr hH hk
theorem Pj{x:ai}{l:List aB}(hx:x.Ok)(hl:∀y∈l,Hw x y)(pP:l.length<=4)(hk:k (.val .nilIface) H):bc lv SC 85 H [x.av,aY l] k kp:=by
 refine bF (rs:=[.tmp 4]) (nt:=34) Tryz.f85 λhH hA=> ?_;simp only[bk,SX,ai.av];have bN:x.l=[iv x.first,iv x.hours,iv x.am,dN x.seen,aY x.pieces,aY x.aC]:=rfl;have aQ:∀(L:List aa),(H++L)[H.length]?=L[0]?:=λL=>aW H L 0;have JZ:=hx.hours;have xH:SE.wrap (x.hours-1)=x.hours-1:=bG _ (by omega);refine aj ?_;simp only[seval,bN];refine aj ?_;simp only[seval,aY];refine cI ?_;refine r6 l.length (λi:Nat=>[(11,iv i)]) (λ_=>_) (λi=>True) trivial (λce db i cN _ R hR=> ?_);refine ak ?_;refine aE ?_;refine⟨λh=> ?_,λh=> ?_⟩
 ·have bx:i<l.length:=by omega
  obtain⟨y,hy⟩:=cy bx;have Cp:=hl y (Te hy);have bP:SE.wrap ((i:Int)+1)=((i+1:Nat):Int):=by rw[bG _ (by omega)];rfl
  refine aO ?_;refine aj ?_;simp only[seval,C3 hy,jl bx];refine ak ?_;refine aJ ((IE (b:=y.number) Cp.number ?_));(try simp only[seval]);refine aj ?_;simp only[seval,F.Cu];refine aE ?_;refine aO ?_;refine aj ?_;simp only[seval,aQ,xH];refine aJ ((IE (b:=y.hour) Cp.hour ?_));(try simp only[seval]);refine aj ?_;simp only[seval,F.Cu];refine aE ?_;refine aO ?_;refine aj ?_;simp only[seval,bP];exact hR _ ⟨bx,trivial,zY (o_ rfl rfl) (by simp only[seval];simp[bA,Wk.refl]) ce (by simp[eD])⟩
 ·refine b_ ?_;refine ak ?_;refine a_ ?_;exact lr hH hk
theorem IJ{x:ai}(hx:x.Ok)(hk:k (iv 0) H):bc lv SC 62 H [x.av] k kp:=by
 refine bF (rs:=[.tmp 2]) (nt:=62) Tryz.f62 λhH hA=> ?_;simp only[bk,SX,ai.av];have bN:x.l=[iv x.first,iv x.hours,iv x.am,dN x.seen,aY x.pieces,aY x.aC]:=rfl;have aQ:∀(L:List aa),(H++L)[H.length]?=L[0]?:=λL=>aW H L 0;have h1:(decide (x.first<0)||decide (x.first>90))=false:=by have:=hx.first;simp;omega
 have h2:(decide (x.hours<1)||decide (x.hours>3))=false:=by have:=hx.hours;simp;omega
 have h3:(decide (x.am<1)||decide (x.am>3))=false:=by have:=hx.am;simp;omega
 have g3:decide ((3:Int)<x.seen.length)=false:=by have:=hx.wc;simp;omega
 have g4:decide ((4:Int)<x.pieces.length)=false:=by have:=hx.c_;simp;omega
 have g5:decide ((3:Int)<x.aC.length)=false:=by have:=hx.eF;simp;omega
 refine aj ?_;simp only[seval,bN];refine aj ?_;simp only[seval,aQ];refine aJ ((sj ?_));(try simp only[seval,h1,aQ]);refine aJ ((sj ?_));(try simp only[seval,h2,aQ]);refine aJ ((sj ?_));(try simp only[seval,h3]);refine aE ?_;refine aO ?_;refine aj ?_;simp only[seval,aQ,dN,g3];refine aE ?_;refine aO ?_;refine aj ?_;simp only[seval,aQ,dN];refine cI ?_;refine r6 x.seen.length (λi:Nat=>[(27,iv i)]) (λ_=>_) (λi=>True) trivial (λce db i cN _ R hR=> ?_);refine ak ?_;refine aE ?_;refine⟨λh=> ?_,λh=> ?_⟩
 ·have bx:i<x.seen.length:=by omega
  obtain⟨y,hy⟩:=cy bx;have Cp:=hx.seen y (Te hy);have bP:SE.wrap ((i:Int)+1)=((i+1:Nat):Int):=by have:=hx.wc;rw[bG _ (by omega)];rfl
  refine aO ?_;refine aj ?_;simp only[seval,ab1 hy,jl bx];refine aj ?_;simp only[seval,aQ];refine aJ ((ahR (x:=x) (y:=y) Cp.1 Cp.2 ?_));(try simp only[seval]);refine aj ?_;simp only[seval,F.Cu];refine aE ?_;refine aO ?_;refine aj ?_;simp only[seval,bP];exact hR _ ⟨bx,trivial,zY (o_ rfl rfl) (by simp only[seval];simp[bA,Wk.refl]) ce (by simp[eD])⟩
 ·refine b_ ?_;refine aj ?_;simp only[seval,aQ,aY,g4];refine aE ?_;refine aO ?_;refine aj ?_;simp only[seval,aQ];refine aJ ((Pj (x:=x) (l:=x.pieces) hx hx.piece hx.c_ ?_));(try simp only[seval]);refine aj ?_;simp only[seval,F.Cu];refine aE ?_;refine aO ?_;refine aj ?_;simp only[seval,aQ,g5];refine aE ?_;refine aO ?_;refine aj ?_;simp only[seval,aQ];refine aJ ((Pj (x:=x) (l:=x.aC) hx hx.stub (by have:=hx.eF;omega) ?_));(try simp only[seval]);refine aJ ((ahS ?_));(try simp only[seval]);refine a_ ?_;exact lr hH hk
end
def No (lv:Bool)(H:List aa)(f:AV)(b:Bool):Prop:=∀(L:List aa)(k kp:AV->List aa->Prop),k (bv b) (H++L)->iQ lv SC f (H++L) [] k kp
def qp:List AV:=[iv 0,iv 0,iv 0,.sl 0 [] .exact,.sl 0 [] .exact,.sl 0 [] .exact]
def eZ (D:Kn):Int:=if D.has then 0 else 11
theorem yL{x:ai}{deep:Int}{p:Nat}{H:List aa}{k kp:AV->List aa->Prop}{f:AV}{b:Bool}(hx:x.Ok)(hp:x.am=p)(hm:H[0]?=some .main)(hf:No true H f b)(ik:b=false->k (.aK [.agg qp,.agg jg,iv 3]) H)(cE:b=true->∀js D L mp,js.Perm (S0 (p+1))->nM x deep js D->bI D->H.length<=mp->(H++L)[mp]?=some (setH D.aL)->k (.aK [x.av,.agg (D.l mp),iv (eZ D)]) (H++L)):bc true SC 51 H [x.av,iv deep,f] k kp:=by
 refine bF (rs:=[.cell 6 76,.cell 7 88,.tmp 8]) (nt:=36) Tryz.f51 λhH hA=> ?_;simp only[bk,SX,ai.av];have bN:x.l=[iv x.first,iv x.hours,iv x.am,dN x.seen,aY x.pieces,aY x.aC]:=rfl;have aQ:∀(L:List aa),(H++L)[H.length]?=L[0]?:=λL=>aW H L 0;have c9:∀(L:List aa),(H++L)[H.length+1]?=L[1]?:=λL=>aW H L 1;have kT:∀(L:List aa),(H++L)[H.length+2]?=L[2]?:=λL=>aW H L 2;refine ak ?_;refine aj ?_;simp only[seval,aQ,bN];refine aJ ((IJ (x:=x) hx ?_));(try simp only[seval]);refine ak ?_;refine aE ?_;refine aO ?_;refine ak ?_;refine wP (hf _ _ _ ?_);(try simp only[seval]);refine aE ?_;refine⟨λhb=> ?_,λhb=> ?_⟩
 ·have dB:b=false:=by simpa using hb
  have:=ik dB;refine ak ?_;refine nS ?_;simp only[seval,c9,kT];exact jM hH (Wk.refl _) (by simp[jz,sV,eD,qp,jg,LM]) this
 ·have dB:b=true:=by simpa using hb
  refine aO ?_;refine aj ?_;simp only[seval,aQ];refine⟨⟨rfl,rfl,rfl⟩,?_⟩;have y9:∀(L:List aa),(H++L)[H.length+3]?=L[3]?:=λL=>aW H L 3;refine aj ?_;simp only[seval,y9];refine aJ ((ahO (x:=x) hx (Dc hx) hp (fI hm) λjs D L5 ij jv bZ hl5=> ?_));have bS:=λmp=>Kn.len bZ mp;have dZ:=uu D;obtain⟨z0,z1,z2,z3,z4,rfl⟩:∃z0 z1 z2 z3 z4,L5=[z0,z1,z2,z3,z4]:=by
   match L5,hl5 with
   |[a,b,c,d,e],_=>exact⟨a,b,c,d,e,rfl⟩
  (try simp only[seval,bS]);refine⟨dZ _,?_⟩;have gf:∀(L:List aa)(j:Nat),(H++L)[H.length+j]?=L[j]?:=λL j=>aW H L j;have zt:∀(L:List aa)(j:Nat)(y:aa),(H++L).set (H.length+j) y=H++L.set j y:=λL j y=>dR H L j y;have aju:∀(L:List aa),(H++L)[H.length+10]?=L[10]?:=λL=>aW H L 10;obtain⟨mp,sH⟩:∃mp,mp=H.length+4+5:=⟨_,rfl⟩;rw[<- sH];refine aj ?_;simp only[seval,aju,Kn.Bj];obtain⟨kY,eU⟩:∃kY:List AV->List AV->List aa,∀u v,kY u v=H++[.cells x.l 26,.cells u 76,.cells v 88,.cells x.l 76,z0,z1,z2,z3,z4,setH D.aL,.cells (D.l mp) 88]:=⟨_,λ_ _=>rfl⟩;have p1:∀u v,(kY u v)[H.length+1]?=some (.cells u 76):=λu v=>by rw[eU,gf];rfl
  have p2:∀u v,(kY u v)[H.length+2]?=some (.cells v 88):=λu v=>by rw[eU,gf];rfl
  have p3:∀u v,(kY u v)[H.length+3]?=some (.cells x.l 76):=λu v=>by rw[eU,gf];rfl
  have p10:∀u v,(kY u v)[H.length+10]?=some (.cells (D.l mp) 88):=λu v=>by rw[eU,gf];rfl
  have s1:∀u v w,(kY u v).set (H.length+1) (.cells w 76)=kY w v:=λu v w=>by rw[eU,zt,eU];rfl
  have s2:∀u v w,(kY u v).set (H.length+2) (.cells w 88)=kY u w:=λu v w=>by rw[eU,zt,eU];rfl
  have dY:∀(e:Int),e=eZ D->k (.aK [x.av,.agg (D.l mp),iv e]) (kY x.l (D.l mp)):=λe he=>by
   rw[he,eU];refine cE dB js D _ mp ij jv bZ (by omega) ?_;rw[sH,show H.length+4+5=H.length+9 from rfl,gf];rfl
  have e0:=eU qp jg;simp only[qp,jg,bN,iv,bv,wv,TN,VA,UC,push_cast,Int.cast_ofNat_Int]at e0;rw[<- e0];clear e0;have bt:x.l.length=6:=rfl;have l9:jg.length=28:=rfl;have R8:qp.length=6:=rfl;have eC:T_ 6 x.l=x.l:=rfl;have FB:T_ 28 (D.l mp)=D.l mp:=SW (by rw[bS];exact SP _);have vC:∀l:List AV,l.length=28->D.l mp++Ue (D.l mp).length l=D.l mp:=λl hl=>by rw[bS,TS (by omega),SY]
  have R4:∀a∈x.l,a.leaf=true:=λa ha=>by
   simp only[ai.l,SL,S4,or_false]at ha;rcases ha with rfl|rfl|rfl|rfl|rfl|rfl<;>rfl
  refine aE ?_;refine⟨λhh=> ?_,λhh=> ?_⟩
  ·have Jf:D.has=false:=(by simpa using hh);have:=dY 11 (by rw[eZ,Jf];rfl);refine qE [2,3] [0,1,2,3,4] [⟨0,false,[],[]⟩,⟨1,false,[],[([2],[2])]⟩,⟨2,true,[2],[]⟩,⟨3,true,[2,3],[]⟩,⟨4,false,[2,3],[]⟩] (λD'=>bif isDone 3 D' then kY x.l (D.l mp)else bif isDone 2 D' then kY x.l jg else kY qp jg) ?_;simp only[seval,p1,p2,p3,p10,s1,s2,bS,bt,l9,R8,dZ];rw[eC,FB];refine⟨rfl,SP _,R4,rfl,bS _,by rw[bS];exact SP _,dZ _,by rw[vC _ rfl];rfl,?_⟩;refine nS ?_;simp only[seval,p1,p2,bS];rw[FB];refine d_ (a:=[x.av,.agg (D.l mp),iv 11]) rfl ?_;exact bT this
  ·have Jf:D.has=true:=(by simpa using hh);have:=dY 0 (by rw[eZ,Jf];rfl);refine aO ?_;refine qE [2,3] [0,1,2,3,4] [⟨0,false,[],[]⟩,⟨1,false,[],[([2],[2])]⟩,⟨2,true,[2],[]⟩,⟨3,true,[2,3],[]⟩,⟨4,false,[2,3],[]⟩] (λD'=>bif isDone 3 D' then kY x.l (D.l mp)else bif isDone 2 D' then kY x.l jg else kY qp jg) ?_;simp only[seval,p1,p2,p3,p10,s1,s2,bS,bt,l9,R8,dZ];rw[eC,FB];refine⟨rfl,SP _,R4,rfl,bS _,by rw[bS];exact SP _,dZ _,by rw[vC _ rfl];rfl,?_⟩;refine nS ?_;simp only[seval,p1,p2,bS];rw[FB];refine d_ (a:=[x.av,.agg (D.l mp),iv 0]) rfl ?_;exact bT this
namespace Tk
def fB (s:Nat)(more:Int)(i:Nat):List Int:=((S0 i).filter s.testBit).map λn:Nat=>(n:Int)+more
theorem aaj(s:Nat)(more:Int)(i:Nat):fB s more (i+1)=if s.testBit i then fB s more i++[(i:Int)+more]else fB s more i:=by
 unfold fB;rw[Vh,List.filter_append,TE];by_cases h:s.testBit i=true
 ·simp[h]
 ·simp[h]
theorem LH(s:Nat)(more:Int)(i:Nat):(fB s more i).length<=i:=by
 unfold fB;rw[Tn];exact UF (List.length_filter_le _ _) (by simp)
end Tk
theorem z1:gG (SG .i64 0) 1=[iv 0]:=rfl
section
variable {lv:Bool}{H:List aa}{k kp:AV->List aa->Prop}
theorem II{s:Nat}{more:Int}(hs:s<65536)(hm:0<=more/\more<=1000)(hk:k (br (fB s more 16)) H):bc lv SC 56 H [wv s,iv more] k kp:=by
 refine bF (rs:=[.tmp 4]) (nt:=21) Tryz.f56 λhH hA=> ?_;simp only[bk,SX];refine ak ?_;refine ak ?_
 (repeat apply gT);refine u6 (t:=5) (sz:=1) (el:=3) (by simp only[seval]<;>rfl) ?_
 refine ak ?_;refine cI ?_;refine gJ 16 (λi:Nat=>[(5,.sl (fB s more i).length ((fB s more i).map iv) (.opn H.length)),(7,iv i)]) (λi=>H++[.tail (fB s more i).length 1 3]) (λ_=>True) (λ_ _=>rfl) (by simp only[seval];simp[bA,Wk.refl];exact Wk.refl _) rfl (λ_ _ _=>by simp) trivial (λce db i cN hi R hR=> ?_);refine ak ?_;refine aE ?_;refine⟨λh=> ?_,λh=> ?_⟩
 ·have hl:i<16:=by omega
  have fL:SE.wrap ((i:Int)+1)=((i+1:Nat):Int):=by rw[bG _ (by omega)];rfl
  have uc:SE.wrap ((i:Int)+more)=(i:Int)+more:=bG _ (by omega);have im:=LH s more i;refine aO ?_;refine ak ?_;refine ak ?_;refine aJ ((wY hs ?_));(try simp only[seval]);refine aE ?_;refine⟨λhb=> ?_,λhb=> ?_⟩
  ·refine aj ?_;simp only[seval,z1,uc]
   first|refine⟨by decide,by omega,?_⟩|refine⟨by omega,?_⟩
   refine aj ?_;simp only[seval,fL];have cZ:fB s more (i+1)=fB s more i++[(i:Int)+more]:=(by rw[aaj,if_pos hb]);refine hR _ ⟨hl,trivial,?_⟩;rw[cZ,TE,SQ];exact dD
  ·refine aO ?_;refine aj ?_;simp only[seval,fL];have cZ:fB s more (i+1)=fB s more i:=(by rw[aaj,if_neg (by simpa using hb)]);refine hR _ ⟨hl,trivial,?_⟩;rw[cZ];exact dD
 ·refine b_ ?_;have:i=16:=by omega
  subst this;refine ak ?_;refine a_ ?_;rw[br]at hk;exact jM hH (iA _ _ _) (by simp[uA,eD]) hk
theorem ahQ{x:ai}{n:Int}{ir:Nat}(hx:x.Ok)(hr:H[ir]?=some (.cells x.l 26))(hk:k (bv (decide (n<0)||decide (n>(x.pieces.length:Int)-1))) H):bc lv SC 82 H [iv n,.op ir 0] k kp:=by
 refine bF (rs:=[.tmp 3]) (nt:=10) Tryz.f82 λhH hA=> ?_;simp only[bk,SX];have bN:x.l=[iv x.first,iv x.hours,iv x.am,dN x.seen,aY x.pieces,aY x.aC]:=rfl;have nw:=hx.c_;have hw:SE.wrap ((x.pieces.length:Int)-1)=(x.pieces.length:Int)-1:=bG _ (by omega);refine ak ?_;refine aj ?_;simp only[seval,hr,bN,aY,hw];refine aJ ((sj ?_));(try simp only[seval]);refine a_ ?_;exact bT hk
theorem ag6{ns:List Int}{f:AV}{e:End}(iX:ns.length<=4)(g:Int->Bool)(hf:∀n∈ns,∀(k kp:AV->List aa->Prop),k (bv (g n)) H->iQ lv SC f H [iv n] k kp)(hk:k (iv (match ns.findIdx? g with|some i=>(i:Int)|none=> -1)) H):bc lv SC 103 H [.sl ns.length (ns.map iv) e,f] k kp:=by
 refine bF (rs:=[.tmp 4]) (nt:=19) Tryz.f103 λhH hA=> ?_;simp only[bk,SX];refine ak ?_;refine ak ?_;refine cI ?_;refine r6 ns.length (λi:Nat=>[(8,iv i)]) (λ_=>_) (λi=>∀n∈ns.take i,g n=false) (by simp) (λce db i cN hi R hR=> ?_);refine ak ?_;refine aE ?_;refine⟨λh=> ?_,λh=> ?_⟩
 ·have bx:i<ns.length:=by omega
  obtain⟨n,hn⟩:=cy bx;have fL:SE.wrap ((i:Int)+1)=((i+1:Nat):Int):=by rw[bG _ (by omega)];rfl
  refine aO ?_;refine ak ?_;refine aj ?_;simp only[seval,gE hn,jl bx];refine wP (hf n (Te hn) _ _ ?_);(try simp only[seval]);refine aE ?_;refine⟨λhg=> ?_,λhg=> ?_⟩
  ·refine ak ?_;refine a_ ?_;have:ns.findIdx? g=some i:=by
    rw[Xr];refine⟨bx,?_,λj hj=> ?_⟩
    ·rw[SV bx]at hn;cases hn;exact hg
    ·have:=hi ns[j] (by rw[List.mem_take_iff_getElem];exact⟨j,by omega,rfl⟩);simp[this]
   rw[this]at hk;exact bT hk
  ·refine aO ?_;refine aj ?_;simp only[seval,fL];refine hR _ ⟨bx,λm hm=> ?_,dD⟩;rw[VE,hn]at hm;rcases SS.1 hm with h'|h'
   ·exact hi m h'
   ·simp at h';rw[h'];simpa using hg
 ·have:i=ns.length:=by omega
  subst this;rw[TJ]at hi;refine b_ ?_;refine ak ?_;refine a_ ?_;have:ns.findIdx? g=none:=by rw[Yd];exactλn hn=>hi n hn
  rw[this]at hk;exact bT hk
theorem ahP{ns:List Int}{f:AV}{e:End}(iX:ns.length<=4)(g:Int->Bool)(hf:∀n∈ns,∀(k kp:AV->List aa->Prop),k (bv (g n)) H->iQ lv SC f H [iv n] k kp)(hk:k (bv (ns.any g)) H):bc lv SC 81 H [.sl ns.length (ns.map iv) e,f] k kp:=by
 refine bF (rs:=[.tmp 4]) (nt:=9) Tryz.f81 λhH hA=> ?_;simp only[bk,SX];refine ak ?_;refine ak ?_;refine aJ ((ag6 iX g hf ?_));(try simp only[seval]);refine a_ ?_;refine bT ?_;have:decide ((match ns.findIdx? g with|some i=>(i:Int)|none=> -1)>=0)=ns.any g:=by
  cases h:ns.findIdx? g with
  |none=>
   rw[Yd]at h;have:ns.any g=false:=by
    rw[List.any_eq_false];exactλn hn=>by simp[h n hn]
   rw[this];rfl
  |some i=>
   rw[Xr]at h;obtain⟨h1,h2,_⟩:=h;have:ns.any g=true:=UL.2 ⟨ns[i],Wr h1,h2⟩;rw[this];simp
 rw[this];exact hk
def xX (x:ai)(ns:List Int):Bool:= !(ns.any λn=>decide (n<0)||decide (n>(x.pieces.length:Int)-1))
theorem IM{x:ai}{ns:List Int}{e:End}{il ir:Nat}(hx:x.Ok)(iX:ns.length<=4)(hl:H[il]?=some (.cells [.sl ns.length (ns.map iv) e] 22))(hr:H[ir]?=some (.cells x.l 26))(hk:k (bv (xX x ns)) H):bc lv SC 80 H [.op il 0,.op ir 0] k kp:=by
 refine bF (rs:=[.tmp 2]) (nt:=7) Tryz.f80 λhH hA=> ?_;simp only[bk,SX];refine ak ?_;refine aj ?_;simp only[seval,hl,T8,Uz,Uh,TP];refine aJ ((ahP (ns:=ns) iX (λn=>decide (n<0)||decide (n>(x.pieces.length:Int)-1)) (λn hn k kp hk=> ?_) ?_))
 ·exact cJ (ahQ hx hr hk)
 (try simp only[seval]);refine a_ ?_;exact bT hk
theorem nU{x:ai}{ns:List Int}{e:End}(hk:k (.fn (.func 80) [] [.op (H.length+1) 0,.op H.length 0]) (H++[.cells x.l 26,.cells [.sl ns.length (ns.map iv) e] 22])):bc lv SC 58 H [x.av,.sl ns.length (ns.map iv) e] k kp:=by
 refine bF (rs:=[.tmp 4]) (nt:=6) Tryz.f58 λhH hA=> ?_;simp only[bk,SX,ai.av];refine ak ?_;refine aj ?_;simp only[seval,T8,Uz,Uh,TP];refine a_ ?_;exact bT hk
end
open Go.Conc Go.Proofs Go.Gg.Tk
structure bp where
 aA:List Int
 g:Int
 s:Int
def Ae (τ:bp):aa:=.cells [br τ.aA,.val (.int .i64 τ.g),.val (.int .u64 τ.s)] 73
def Hg (a b:Int):Int:=TA.wrap (Ug TA.bits a^^^Ug TA.bits b).toNat
def ac0 (g:Int):Int:=TA.wrap (TA.wrap (TA.wrap g* 15074714826142052245)+11400714819323198485)
def M8 (τ:bp):Int:=match τ.aA[τ.g.toNat]?with
 |some x=>Hg (ac0 τ.g) (TA.wrap (TA.wrap x* 12620523164723586485))
 |none=>ac0 τ.g
def amB (s w:Int):Int:=TA.wrap (TA.wrap (s+w)* 13787848793156543929)
def amC (s:Int):Int:=Hg s (s.fdiv (2^min 31 TA.bits))
def Gp (s:Int):Int:=(Hg s (s.fdiv (2^min 27 TA.bits))).fdiv (2^min 9 TA.bits)
def tick (τ:bp):bp:=⟨τ.aA,τ.g+1,amC (amB τ.s (M8 τ))⟩
def v8 (τ:bp):Int:=Gp (TA.wrap ((tick τ).s* 10723151780598845931))
theorem acT(n:Int)(h0:0<=n)(h:n<2^64):TA.wrap n=n:=by
 have h1:TA.bits=64:=rfl;have h2:TA.signed=false:=rfl;unfold W_;rw[h1,h2];simp;omega
theorem aq9(n:Int):0<=TA.wrap n/\TA.wrap n<2^64:=by
 have h1:TA.bits=64:=rfl;have h2:TA.signed=false:=rfl;unfold W_;rw[h1,h2];simp;omega
theorem aa3(s:Int):0<=Gp s/\Gp s<2^55:=by
 unfold Gp Hg;have h:=aq9 (Ug TA.bits s^^^Ug TA.bits (s.fdiv (2^min 27 TA.bits))).toNat;have e:(2:Int)^min 9 TA.bits=512:=by decide
 rw[e,Int.fdiv_eq_ediv_of_nonneg _ (show (0:Int)<=512 by decide)];omega
def dH (τ:bp)(n:Int):Int:=if n<1 then 0 else(v8 τ).tmod (n+1)
theorem mO(τ:bp)(n:Int):0<=dH τ n/\(dH τ n<=n\/dH τ n=0):=by
 unfold dH;split
 ·omega
 ·have h:=(aa3 (TA.wrap ((tick τ).s* 10723151780598845931))).1;have h1:=Int.tmod_nonneg (n+1) h;have h2:=Int.tmod_lt_of_pos (v8 τ) (show 0<n+1 by omega);unfold v8 at h2⊢;omega
def Di (τ:bp)(lo hi:Int):Int:=lo+dH τ (hi-lo)
theorem aro(τ:bp){lo hi:Int}(h:lo<=hi):lo<=Di τ lo hi/\Di τ lo hi<=hi:=by
 have:=mO τ (hi-lo);unfold Di;omega
def aoE (τ:bp)(n:Int):Bool:=dH τ (n-1)==0
structure dW (Gf:bp->List aa)(t N:Nat):Prop where
 len:∀τ,(Gf τ).length=N
 get:∀τ,(Gf τ)[t]?=some (Ae τ)
 set:∀τ τ',(Gf τ).set t (Ae τ')=Gf τ'
 ok:∀m τ τ',(∀z∈Gf τ,eY m z)->∀z∈Gf τ',eY m z
theorem dW.more{Gf:bp->List aa}{t N:Nat}(h:dW Gf t N)(L:List aa):dW (λτ=>Gf τ++L) t (N+L.length)where
 len:=λτ=>by simp[h.len]
 get:=λτ=>fI (h.get τ)
 set:=λτ τ'=>by show (Gf τ++L).set t _=_;rw[Ww _ _ (eM (h.get τ)),h.set]
 ok:=λm τ τ' hk z hz=>(SS.1 hz).elim (λhz=>h.ok m τ τ' (λv hv=>hk v (Tg _ hv)) z hz) (λhz=>hk z (S5 _ hz))
theorem dW.ay{Gf:bp->List aa}{t N:Nat}(h:dW Gf t N){τ:bp}(hH:bM (Gf τ))(τ':bp):bM (Gf τ'):=λz hz=>by
 have:=h.ok N τ τ' (λw hw=>by have:=hH w hw;rwa [h.len]at this) z hz;rwa [h.len]
section
variable {Gf:bp->List aa}{t N:Nat}(h:dW Gf t N)
include h
theorem dW.g0(τ:bp)(L:List aa):(Gf τ++L)[N]?=L[0]?:=by have:=uW (Gf τ) L 0;rwa [h.len]at this
theorem dW.g1(τ:bp)(L:List aa):(Gf τ++L)[N+1]?=L[1]?:=by have:=uW (Gf τ) L 1;rwa [h.len]at this
theorem dW.g2(τ:bp)(L:List aa):(Gf τ++L)[N+1+1]?=L[2]?:=by have:=uW (Gf τ) L 2;rwa [h.len]at this
theorem dW.g3(τ:bp)(L:List aa):(Gf τ++L)[N+1+1+1]?=L[3]?:=by have:=uW (Gf τ) L 3;rwa [h.len]at this
theorem dW.h2(τ:bp)(L:List aa):(Gf τ++L)[N+2]?=L[2]?:=h.g2 τ L
theorem dW.h3(τ:bp)(L:List aa):(Gf τ++L)[N+3]?=L[3]?:=h.g3 τ L
theorem dW.s0(τ:bp)(L:List aa)(x:aa):(Gf τ++L).set N x=Gf τ++L.set 0 x:=by have:=uX (Gf τ) L 0 x;rwa [h.len]at this
theorem dW.s1(τ:bp)(L:List aa)(x:aa):(Gf τ++L).set (N+1) x=Gf τ++L.set 1 x:=by have:=uX (Gf τ) L 1 x;rwa [h.len]at this
theorem dW.s2(τ:bp)(L:List aa)(x:aa):(Gf τ++L).set (N+1+1) x=Gf τ++L.set 2 x:=by have:=uX (Gf τ) L 2 x;rwa [h.len]at this
theorem dW.s3(τ:bp)(L:List aa)(x:aa):(Gf τ++L).set (N+1+1+1) x=Gf τ++L.set 3 x:=by have:=uX (Gf τ) L 3 x;rwa [h.len]at this
theorem dW.t2(τ:bp)(L:List aa)(x:aa):(Gf τ++L).set (N+2) x=Gf τ++L.set 2 x:=h.s2 τ L x
theorem dW.t3(τ:bp)(L:List aa)(x:aa):(Gf τ++L).set (N+3) x=Gf τ++L.set 3 x:=h.s3 τ L x
end
theorem am8(m:Nat)(τ:bp):eY m (Ae τ):=by
 intro a ha;simp only[SL,S4,or_false]at ha;rcases ha with rfl|rfl|rfl
 ·rw[zH];trivial
 ·exact .val _
 ·exact .val _
theorem aqT(H:List aa):dW (λτ=>H++[Ae τ]) H.length (H.length+1)where
 len:=λτ=>by simp
 get:=λτ=>by simp
 set:=λτ τ'=>by simp
 ok:=λm τ τ' hk z hz=>by
  rcases SS.1 hz with hz|hz
  ·exact hk z (Tg _ hz)
  ·rw[S8.1 hz];exact am8 _ _
structure bp.Ok (τ:bp)(b:Int):Prop where
 g0:0<=τ.g
 g:τ.g<=b
 len:τ.aA.length<=2^50
section
variable {lv:Bool}{H:List aa}{k kp:AV->List aa->Prop}{Gf:bp->List aa}{t N:Nat}{τ:bp}{b:Int}
theorem ahk{aA:List Int}(hk:k (.op H.length 0) (H++[Ae ⟨aA,0,7640891576956012809⟩])):bc lv SC 16 H [br aA] k kp:=by
 refine bF (rs:=[.tmp 2]) (nt:=6) Tryz.f16 λhH hA=> ?_;simp only[bk,SX];refine ak ?_;refine ak ?_;refine a_ ?_;exact bT hk
theorem bp.Ok.tick(h:τ.Ok b):(tick τ).Ok (b+1):=⟨by have:=h.g0;show 0<=τ.g+1;omega,by have:=h.g;show τ.g+1<=b+1;omega,h.len⟩
theorem bp.Ok.mono{b':Int}(h:τ.Ok b)(hb:b<=b'):τ.Ok b':=⟨h.g0,by have:=h.g;omega,h.len⟩
theorem ahG(hT:dW Gf t N)(hτ:τ.Ok b)(hb:b<2^60)(hk:k (.val (.int .u64 (v8 τ))) (Gf (tick τ))):bc lv SC 55 (Gf τ) [.op t 0] k kp:=by
 obtain⟨aA,g,s⟩:=τ;obtain⟨oc,hgb,Q5⟩:=hτ;simp only at oc hgb Q5;refine bF (rs:=[.tmp 2]) (nt:=76) Tryz.f55 λhH hA=> ?_;simp only[bk,SX];have hg:∀τ,(Gf τ)[t]?=some (.cells [.sl τ.aA.length (τ.aA.map iv) .shut,.val (.int .i64 τ.g),.val (.int .u64 τ.s)] 73):=hT.get;have hs:∀τ (CM:List Int) g' s',(Gf τ).set t (.cells [.sl CM.length (CM.map iv) .shut,.val (.int .i64 g'),.val (.int .u64 s')] 73)=Gf ⟨CM,g',s'⟩:=λτ CM g' s'=>hT.set τ ⟨CM,g',s'⟩;obtain⟨n,rfl⟩:∃n:Nat,g=n:=⟨g.toNat,by omega⟩;have hw:SE.wrap ((n:Int)+1)=n+1:=bG _ (by omega);refine ak ?_;refine aj ?_;simp only[seval,hg];refine eI 9 ?_;simp only[seval,hg];refine aE ?_;refine⟨λh=> ?_,λh=> ?_⟩
 ·have jQ:n<aA.length:=by simpa using h
  obtain⟨x,hx⟩:=cy jQ;refine eI 13 ?_;simp only[seval,hg,gE hx,jl jQ,AT];refine aj ?_;simp only[seval,hg,hw,hs];refine aj ?_;simp only[seval,hg,hs];refine eI 11 ?_;simp only[seval,hg,hs,AR,AT];refine aj ?_;simp only[seval,hg];refine aj ?_;simp only[seval,AR,AT];refine a_ ?_;refine bT ?_;unfold v8 tick M8 at hk;simp only[Vx,hx]at hk;exact hk
 ·have jQ:¬n<aA.length:=by simpa using h
  have hx:aA[n]?=none:=by rw[Uu];omega
  refine aO ?_;refine aj ?_;simp only[seval,hg,hw,hs];refine aj ?_;simp only[seval,hg,hs];refine eI 11 ?_;simp only[seval,hg,hs,AR,AT];refine aj ?_;simp only[seval,hg];refine aj ?_;simp only[seval,AR,AT];refine a_ ?_;refine bT ?_;unfold v8 tick M8 at hk;simp only[Vx,hx]at hk;exact hk
theorem si{n:Int}(hT:dW Gf t N)(hτ:τ.Ok b)(hb:b<2^60)(hn:n<2^60)(hk:k (iv (dH τ n)) (Gf (tick τ))):bc lv SC 25 (Gf τ) [.op t 0,iv n] k kp:=by
 refine bF (rs:=[.tmp 4]) (nt:=16) Tryz.f25 λhH hA=> ?_;simp only[bk,SX];refine ak ?_;refine ak ?_;refine aJ ((ahG hT hτ hb ?_));(try simp only[seval]);refine ak ?_;refine aE ?_;refine⟨λh=> ?_,λh=> ?_⟩
 ·have h:n<1:=by simpa using h
  refine ak ?_;refine a_ ?_;rw[dH,if_pos h]at hk;exact bT hk
 ·have h:¬n<1:=by simpa using h
  have ho:=aa3 (TA.wrap ((tick τ).s* 10723151780598845931));have bP:TA.wrap n=n:=acT n (by omega) (by omega);have gY:TA.wrap (n+1)=n+1:=acT _ (by omega) (by omega);have oi:n+1≠0:=by omega
  have hr:=mO τ n;rw[dH,if_neg h]at hk hr;have vT:SE.wrap ((v8 τ).tmod (n+1))=(v8 τ).tmod (n+1):=bG _ (by omega);refine aO ?_;refine aj ?_;simp only[seval,ad3,bP,gY,vT,oi];refine a_ ?_;exact bT hk
theorem ahq{lo hi:Int}(hT:dW Gf t N)(hτ:τ.Ok b)(hb:b<2^60)(oU:0<=lo/\lo<2^20)(EV: -1<=hi/\hi<2^20)(hk:k (iv (Di τ lo hi)) (Gf (tick τ))):bc lv SC 23 (Gf τ) [.op t 0,iv lo,iv hi] k kp:=by
 refine bF (rs:=[.tmp 6]) (nt:=14) Tryz.f23 λhH hA=> ?_;simp only[bk,SX];have bP:SE.wrap (hi-lo)=hi-lo:=bG _ (by omega);have hr:=mO τ (hi-lo);have gY:SE.wrap (lo+dH τ (hi-lo))=lo+dH τ (hi-lo):=bG _ (by omega);refine ak ?_;refine aj ?_;simp only[seval,bP];refine aJ ((si hT hτ hb (by omega) ?_));(try simp only[seval,gY]);refine a_ ?_;exact bT hk
theorem Pe{n:Int}(hT:dW Gf t N)(hτ:τ.Ok b)(hb:b<2^60)(hn:0<=n/\n<2^20)(hk:k (bv (aoE τ n)) (Gf (tick τ))):bc lv SC 46 (Gf τ) [.op t 0,iv n] k kp:=by
 refine bF (rs:=[.tmp 4]) (nt:=10) Tryz.f46 λhH hA=> ?_;simp only[bk,SX];have bP:SE.wrap (n-1)=n-1:=bG _ (by omega);refine ak ?_;refine aj ?_;simp only[seval,bP];refine aJ ((si hT hτ hb (by omega) ?_));(try simp only[seval]);refine a_ ?_;exact bT hk
end
theorem uB{α:Type}{xs:List α}{i:Nat}{x:α}(h:xs[i]?=some x):x∈xs:=Te h
def u5 (xs:List Int)(n:Int):Int:=if n∈xs then(xs.idxOf n:Int)else -1
theorem R_{n:Int}:∀{xs:List Int}{i:Nat},xs[i]?=some n->n∉xs.take i->xs.idxOf n=i
 |[],i,h,_=>by cases h
 |x::xs,0,h,_=>by cases h;simp
 |x::xs,i+1,h,hn=>by
  rw[VQ,SL,not_or]at hn;have e:(x==n)=false:=beq_eq_false_iff_ne.2 λe=>hn.1 e.symm;rw[List.idxOf_cons,e,cond_false,R_ (by simpa using h) hn.2]
theorem aeK{xs:List Int}{n:Int}{i:Nat}(h:xs[i]?=some n)(hn:n∉xs.take i):u5 xs n=i:=by
 rw[u5,if_pos (uB h),R_ h hn]
theorem HO(xs:List Int)(n:Int):(0<=u5 xs n<->n∈xs)/\(∀i:Nat,u5 xs n=i->xs[i]?=some n)/\ -1<=u5 xs n:=by
 unfold u5;split
 ·rename_i h;refine⟨⟨λ_=>h,λ_=>by omega⟩,λi hi=> ?_,by omega⟩;obtain rfl:xs.idxOf n=i:=by omega
  have hlt:=List.idxOf_lt_length_of_mem h;rw[SV hlt,List.getElem_idxOf hlt]
 ·rename_i h;exact⟨⟨λe=>by omega,λe=>absurd e h⟩,λi hi=>by omega,by omega⟩
section
variable {lv:Bool}{H:List aa}{k kp:AV->List aa->Prop}
theorem ahu{xs:List Int}{n:Int}{e:End}(hl:xs.length<2^30)(hk:k (iv (u5 xs n)) H):bc lv SC 27 H [.sl xs.length (xs.map iv) e,iv n] k kp:=by
 refine bF (rs:=[.tmp 4]) (nt:=19) Tryz.f27 λhH hA=> ?_;simp only[bk,SX];refine ak ?_;refine ak ?_;refine cI ?_;refine r6 xs.length (λi:Nat=>[(5,iv i)]) (λ_=>_) (λi=>n∉xs.take i) (by simp) (λce db i cN hi R hR=> ?_);clear ce db;refine ak ?_;refine aE ?_;refine⟨λh=> ?_,λh=> ?_⟩
 ·have bx:i<xs.length:=by omega
  obtain⟨y,hy⟩:=cy bx;have bP:SE.wrap ((i:Int)+1)=i+1:=bG _ (by omega);refine aO ?_;refine aj ?_;simp only[seval,gE hy,jl bx];refine aE ?_;refine⟨λh2=> ?_,λh2=> ?_⟩
  ·have h2:y=n:=(by simpa using h2);subst h2;refine ak ?_;refine a_ ?_;rw[aeK hy hi]at hk;exact bT hk
  ·have h2:¬y=n:=(by simpa using h2);refine aO ?_;refine aj ?_;simp only[seval,bP];refine hR _ ⟨bx,λhm=> ?_,dD⟩;obtain⟨hj,hle⟩:=SM.1 hy;rw[VZ hj,hle]at hm;rcases SS.1 hm with hm|hm
   ·exact hi hm
   ·exact h2 (S8.1 hm).symm
 ·have pO:i=xs.length:=by omega
  subst pO;rw[TJ]at hi;refine b_ ?_;refine ak ?_;refine a_ ?_;rw[u5,if_neg hi]at hk;exact bT hk
theorem aht{xs:List Int}{n:Int}{e:End}(hl:xs.length<2^30)(hk:∀v:Int,(0<=v<->n∈xs)->(∀i:Nat,v=i->xs[i]?=some n)-> -1<=v->k (iv v) H):bc lv SC 27 H [.sl xs.length (xs.map iv) e,iv n] k kp:=ahu hl (hk _ (HO xs n).1 (HO xs n).2.1 (HO xs n).2.2)
inductive rX:List AV->List AV->Prop
 |nil:rX [] []
 |cons {a b:AV} {l m:List AV} (h:Wk a b) (t:rX l m):rX (a::l) (b::m)
theorem rX.len{l m:List AV}(h:rX l m):l.length=m.length:=by
 induction h with
 |nil=>rfl
 |cons _ _ ih=>simp[ih]
theorem rX.at{l m:List AV}(h:rX l m):∀(i:Nat)(a b:AV),m[i]?=some a->l[i]?=some b->Wk b a:=by
 induction h with
 |nil=>intro i a b h;simp at h
 |cons h _ ih=>
  intro i a b h1 h2
  match i with
  |0=>cases h1;cases h2;exact h
  |i+1=>exact ih i a b h1 h2
theorem G3{l l':List AV}(h:rX l l'):Wk (.agg l) (.agg l'):=λE v hd=>by
 cases hd with
 |agg hs h1=>
  refine .agg (by rw[hs,h.len]) λi x hx=> ?_;obtain⟨y,hy⟩:=cy (xs:=l) (i:=i) (by rw[h.len];exact eM hx);exact h.at i x y hx hy E _ (h1 i y hy)
theorem M7{n:Nat}{l l':List AV}{e:End}(hl:l.length=l'.length)(h:∀(i:Nat) a b,l'[i]?=some a->l[i]?=some b->Wk b a):Wk (.sl n l e) (.sl n l' e):=λE v hd=>by
 cases hd with
 |sl b o cap f hc he h1 h2=>
  refine .sl b o cap f hc he (λi hi=>h1 i (by omega)) λi x hx=> ?_;obtain⟨y,hy⟩:=cy (xs:=l) (i:=i) (by have:=eM hx;omega);exact h i x y hx hy E _ (h2 i y hy)
 |nil he=>
  have:l'=[]:=List.eq_nil_of_length_eq_zero hl.symm;subst this;exact .nil he
theorem L4:(1<=2^24)=True:=by simp
theorem Rm{H L:List aa}(h:bM H)(hL:∀z∈L,∀n,eY n z):bM (H++L):=λz hz=>by
 rcases SS.1 hz with h'|h'
 ·exact(h z h').mono (by simp)
 ·exact hL z h' _
theorem GC{base Vi Vn T:List (Nat×AV)}{H H':List aa}(G:List aa)(hk:rS T (Vi++base) Vn)(hv:∀p∈Vn,∃b,look T p.1=some b/\Wk b p.2)(ay:bM H)(hlt:∀p∈Vn,Lt H.length p.2)(hG:H'=H++G):tC base Vi Vn H ⟨T,H'⟩:=⟨hk,hv,G,hG,.inr ⟨ay,hlt⟩⟩
theorem aqE{xs ys:List Int}{i:Nat}{x y:Int}(hx:xs[i]?=some x)(hy:ys[i]?=some y)(h:xs.take i=ys.take i)(e:x=y):xs.take (i+1)=ys.take (i+1):=by
 obtain⟨hj,rfl⟩:=SM.1 hx;obtain⟨hk,rfl⟩:=SM.1 hy;rw[VZ hj,VZ hk,h,e]
theorem yK{xs ys:List Int}{e e':End}(hx:xs.length<2^60)(hk:k (bv (decide (xs=ys))) H):bc lv SC 20 H [.sl xs.length (xs.map iv) e,.sl ys.length (ys.map iv) e'] k kp:=by
 refine bF (rs:=[.tmp 4]) (nt:=26) Tryz.f20 λhH hA=> ?_;simp only[bk,SX];refine ak ?_;refine ak ?_;refine aE ?_;refine⟨λh=> ?_,λh=> ?_⟩
 ·have h:xs≠ys:=λe=>by subst e;simp at h
  refine ak ?_;refine a_ ?_;rw[decide_eq_false h]at hk;exact bT hk
 ·have h:xs.length=ys.length:=by
   have h:(xs.length:Int)=ys.length:=(by simpa using h);omega
  refine aO ?_;refine ak ?_;refine cI ?_;refine r6 xs.length (λi:Nat=>[(5,iv i)]) (λ_=>_) (λi=>xs.take i=ys.take i) (by simp) (λce db i cN hi R hR=> ?_);refine ak ?_;refine aE ?_;refine⟨λh2=> ?_,λh2=> ?_⟩
  ·have hlt:i<xs.length:=(by omega);obtain⟨x,Cm⟩:=cy hlt;obtain⟨y,fQ⟩:=cy (xs:=ys) (i:=i) (by omega);refine aO ?_;refine cI ?_;refine eI 8 ?_;simp only[seval,gE Cm,gE fQ,jl hlt,jl (eM fQ)];refine aE ?_;refine⟨λh3=> ?_,λh3=> ?_⟩
   ·have h3:xs≠ys:=λe=>(by subst e;rw[Cm]at fQ;cases fQ;simp at h3);refine ak ?_;refine a_ ?_;rw[decide_eq_false h3]at hk;exact bT hk
   ·have h3:x=y:=(by simpa using h3);refine aO ?_;refine ak ?_;refine hR _ ⟨hlt,aqE Cm fQ hi h3,?_⟩;rw[bG _ (by omega)];exact dD
  ·have pO:i=xs.length:=(by omega);refine b_ ?_;refine ak ?_;refine a_ ?_;have h3:xs=ys:=by
    rw[pO,TJ]at hi;rw[hi,h,TJ]
   rw[decide_eq_true h3]at hk;exact bT hk
end
def fG (x:ai)(deep:Int)(D:Kn):Prop:=∃(p:Nat)(js:List Nat),x.am=p/\js.Perm (S0 (p+1))/\nM x deep js D/\bI D
theorem kF(x:ai):∀a∈x.l,a.leaf=true:=λa ha=>by
 simp only[ai.l,SL,S4,or_false]at ha;rcases ha with rfl|rfl|rfl|rfl|rfl|rfl<;>rfl
section
variable {H:List aa}{k kp:AV->List aa->Prop}
theorem HN{lv:Bool}:No lv H (.fn (.func 52) [] []) true:=λL k kp hk=>cJ (ahD hk)
theorem aho{x:ai}(hx:x.Ok)(hm:H[0]?=some .main)(hk:∀D,fG x 0 D->k (.aK [iv (if D.has then(D.aL.length:Int)else 0),iv 0]) H):bc true SC 21 H [x.av] k kp:=by
 refine bF (rs:=[.tmp 2,.tmp 3]) (nt:=19) Tryz.f21 λhH hA=> ?_;simp only[bk,SX,ai.av];have hp:=hx.am;obtain⟨p,ew⟩:∃p:Nat,x.am=p:=⟨x.am.toNat,by omega⟩;have bN:x.l=[iv x.first,iv x.hours,iv x.am,dN x.seen,aY x.pieces,aY x.aC]:=rfl;have aQ:∀(L:List aa),(H++L)[H.length]?=L[0]?:=λL=>aW H L 0;have bt:x.l.length=6:=rfl;have eC:T_ 6 x.l=x.l:=rfl;refine ak ?_;refine aj ?_;simp only[seval,aQ,bt,eC];refine aJ ((yL (x:=x) hx ew (fI hm) HN (λh=>by cases h) λ_ js D L mp ij jv bZ sH hg=> ?_));have eN:fG x 0 D:=⟨p,js,ew,ij,jv,bZ⟩;have bS:=Kn.len bZ mp;have dZ:=uu D mp;obtain⟨B,hB⟩:∃B,B=H++[aa.cells x.l 26]++L:=⟨_,rfl⟩;rw[<- hB]at hg⊢;(try simp only[seval,ai.av,bt,bS]);refine⟨kF x,dZ,?_⟩;have fz:∀(L':List aa)(n:Int),k (.aK [iv n,iv 0]) H->cD H.length (B++L') (.aK [iv n,iv 0]) k:=λL' n h=>by
  rw[hB,SD,SD];exact jM hH (Wk.refl _) (by simp[jz,eD]) h
 have n5:∀(L':List aa),(B++L')[B.length+1]?=L'[1]?:=λL'=>aW B L' 1;have vH:∀(L':List aa),(B++L')[mp]?=some (.obj (.map (D.aL.zipIdx.map eo).toArray D.aL.length)):=λL'=>fI hg;have c9:(D.l mp).drop 1=.mp mp::((D.l mp).drop 2):=rfl;have aI:=hk D eN;cases hh:D.has with
 |false=>
  have hE:eZ D=11:=by rw[eZ,hh];rfl
  rw[hh]at aI;refine aj ?_;simp only[seval,hE,show ((11:Int)==11)=true from rfl];refine aE ?_;refine ak ?_;refine a_ ?_;exact fz _ 0 aI
 |true=>
  have hE:eZ D=0:=by rw[eZ,hh];rfl
  rw[hh]at aI;refine aj ?_;simp only[seval,hE,show ((0:Int)==11)=false from rfl];refine aE ?_;refine aO ?_;refine aj ?_;simp only[seval,n5,c9,vH];have aV:(D.aL.zipIdx.map eo).toArray.size=D.aL.length:=by simp
  rw[adA _ _ _ _ _ F.Nq (vH _),aV];refine a_ ?_;exact fz _ _ aI
end
namespace Tk
def vM (some other:Bool):Int:=if some&&other then 3 else if some then 1 else 2
end Tk
open Go.Conc Go.Proofs Go.Gg.Tk
section
variable {lv:Bool}{H:List aa}{k kp:AV->List aa->Prop}
theorem ahI{D:Kn}{mp s q:Nat}(hD:bI D)(hs:s<3)(hq:q<4)(hk:k (iv (vM ((D.aT.getD s 0).testBit q) (D.aT.getD s 0!=2^q))) H):bc lv SC 60 H [.agg (D.l mp),.cX 97 (.agg [iv s,iv q])] k kp:=by
 refine bF (rs:=[.tmp 4]) (nt:=65) Tryz.f60 λhH hA=> ?_;simp only[bk,SX];have bS:=Kn.len hD mp;obtain⟨u,hu⟩:=cy (xs:=D.aT) (i:=s) (by rw[hD.aT];exact hs);have lI:D.aT.getD s 0=u:=by rw[SF,hu];rfl
 rw[lI]at hk;have lu:=hD.lM _ (Te hu);have b3:(0<=(s:Int)/\(s:Int)<3)=True:=by simp;omega
 have aQ:∀(L:List aa),(H++L)[H.length]?=L[0]?:=λL=>aW H L 0;have c9:∀(L:List aa),(H++L)[H.length+1]?=L[1]?:=λL=>aW H L 1;have BN:=Kn.CU hD (mp:=mp) hu;refine ak ?_;refine ak ?_;refine ak ?_;refine aj ?_;simp only[seval,F.ak7];refine aE ?_;refine aj ?_;simp only[seval,F.Sg];refine aE ?_;refine ak ?_;refine eI 18 ?_;simp only[seval,aQ,c9,b3,BN];refine iy (bv (u.testBit q)) (cJ (wY lu ⟨rfl,rfl⟩)) ?_;refine iy (wv (2^q)) (cJ (tP (m:=0) (by decide) (show q<16 by omega) ⟨by rw[Nat.zero_or],rfl⟩)) ?_;have aG:((u:Int)!=((2^q:Nat):Int))=(u !=2^q):=by
  rw[Vk,bne_iff_ne,bne_iff_ne];exact not_congr Int.ofNat_inj
 rw[show wv u=AV.val (.int .u16 (u:Int))from rfl,show wv (2^q)=AV.val (.int .u16 ((2^q:Nat):Int))from rfl,NA,aG];have fin:∀(L:List aa)(n:Int),vM (u.testBit q) (u !=2^q)=n->cD H.length (H++L) (iv n) k:=λL n h=>by rw[h]at hk;exact lr hH hk
 generalize u.testBit q=s1 at fin⊢;generalize(u !=2^q)=s2 at fin⊢;cases s1<;>cases s2
 all_goals
  refine ak ?_;refine cI ?_;refine cI ?_;refine cI ?_;refine ak ?_;refine aE ?_
 ·refine aO ?_;refine ak ?_;refine aE ?_;refine b_ ?_;refine ak ?_;refine ak ?_;refine b_ ?_;refine ak ?_;refine a_ ?_;exact fin _ 2 rfl
 ·refine aO ?_;refine ak ?_;refine aE ?_;refine b_ ?_;refine ak ?_;refine ak ?_;refine b_ ?_;refine ak ?_;refine a_ ?_;exact fin _ 2 rfl
 ·refine aO ?_;refine ak ?_;refine aE ?_;refine aO ?_;refine b_ ?_;refine ak ?_;refine b_ ?_;refine ak ?_;refine a_ ?_;exact fin _ 1 rfl
 ·refine b_ ?_;refine ak ?_;refine ak ?_;refine ak ?_;refine b_ ?_;refine ak ?_;refine a_ ?_;exact fin _ 3 rfl
theorem anJ{x:ai}{q:Nat}(hq:q<x.pieces.length):xX x [(q:Int)]=true:=by
 unfold xX;simp;omega
theorem ahH{x:ai}{s q ir ip is:Nat}(hx:x.Ok)(hs:s<x.aC.length)(hq:q<x.pieces.length)(hr:H[ir]?=some (.cells x.l 26))(h1:H[ip]?=some (.cells [iv q] 3))(h2:H[is]?=some (.cells [iv s] 3))(hk:k (bv true) H):bc lv SC 57 H [.op ir 0,.op ip 0,.op is 0] k kp:=by
 refine bF (rs:=[.tmp 3]) (nt:=18) Tryz.f57 λhH hA=> ?_;simp only[bk,SX];have bN:x.l=[iv x.first,iv x.hours,iv x.am,dN x.seen,aY x.pieces,aY x.aC]:=rfl;have bt:x.l.length=6:=rfl;have eC:T_ 6 x.l=x.l:=rfl;have aP:=hx.eF;have aQ:∀(L:List aa),(H++L)[H.length]?=L[0]?:=λL=>aW H L 0;have c9:∀(L:List aa),(H++L)[H.length+1]?=L[1]?:=λL=>aW H L 1;have ay:=anJ hq;have hw:SE.wrap ((x.aC.length:Int)-1)=(x.aC.length:Int)-1:=bG _ (by omega);have cN:(decide ((s:Int)<0)||decide ((s:Int)>(x.aC.length:Int)-1))=false:=by simp;omega
 refine ak ?_;refine aj ?_;simp only[seval,z1,hr,h1,bt,eC];(try refine⟨by decide,?_⟩);refine aJ ((nU (x:=x) (ns:=[(q:Int)]) (e:=.exact) ?_));(try simp only[seval]);refine aJ ((IM (x:=x) (ns:=[(q:Int)]) (e:=.exact) hx (by simp) (by rw[c9];rfl) (by rw[aQ];rfl) ?_));(try simp only[seval,ay,fI hr,fI h2,bN,aY,hw]);refine aJ ((sj ?_));(try simp only[seval,cN]);refine a_ ?_;exact lr hH hk
theorem ahv{x:ai}{s q:Nat}(hx:x.Ok)(hs:s<x.aC.length)(hq:q<x.pieces.length)(hm:H[0]?=some .main)(hk:∀D,fG x 2 D->k (.aK [iv (if D.has then vM ((D.aT.getD s 0).testBit q) (D.aT.getD s 0!=2^q)else 0),iv (eZ D)]) H):bc true SC 28 H [x.av,iv s,iv q] k kp:=by
 refine bF (rs:=[.tmp 6,.tmp 7]) (nt:=27) Tryz.f28 λhH hA=> ?_;simp only[bk,SX,ai.av];have hp:=hx.am;obtain⟨p,ew⟩:∃p:Nat,x.am=p:=⟨x.am.toNat,by omega⟩;have aQ:∀(L:List aa),(H++L)[H.length]?=L[0]?:=λL=>aW H L 0;have c9:∀(L:List aa),(H++L)[H.length+1]?=L[1]?:=λL=>aW H L 1;have kT:∀(L:List aa),(H++L)[H.length+2]?=L[2]?:=λL=>aW H L 2;have bt:x.l.length=6:=rfl;have eC:T_ 6 x.l=x.l:=rfl;refine ak ?_;refine aj ?_;simp only[seval,aQ,bt,eC,T8,Uz,Uh,TP];refine aJ ((yL (x:=x) (b:=true) hx ew (fI hm) (λL k kp hk=>cJ (ahH hx hs hq (by rw[SD,aQ];rfl) (by rw[SD,kT];rfl) (by rw[SD,c9];rfl) hk)) (λh=>by cases h) λ_ js D L mp ij jv bZ sH hg=> ?_));have eN:fG x 2 D:=⟨p,js,ew,ij,jv,bZ⟩;have bS:=Kn.len bZ mp;have dZ:=uu D mp;obtain⟨Y,hY⟩:∃Y:List aa,Y=[aa.cells x.l 26,.cells [iv s] 3,.cells [iv q] 3]++L:=⟨_,rfl⟩;obtain⟨B,hB⟩:∃B,B=H++Y:=⟨_,rfl⟩;have sr:H++[aa.cells x.l 26,.cells [iv s] 3,.cells [iv q] 3]++L=B:=by rw[hB,hY,SD]
 have n5:∀(L':List aa),(B++L')[B.length+1]?=L'[1]?:=λL'=>aW B L' 1;have hbs:∀(L':List aa),(B++L')[H.length+1]?=some (.cells [iv s] 3):=λL'=>by rw[hB,hY,SD,c9];rfl
 have hbq:∀(L':List aa),(B++L')[H.length+2]?=some (.cells [iv q] 3):=λL'=>by rw[hB,hY,SD,kT];rfl
 have aI:=hk D eN;have fz:∀(L':List aa)(n m:Int),k (.aK [iv n,iv m]) H->cD H.length (B++L') (.aK [iv n,iv m]) k:=λL' n m h=>by
  rw[hB,SD];exact jM hH (Wk.refl _) (by simp[jz,eD]) h
 rw[sr];clear sr hg hB;(try simp only[seval,ai.av,bt,bS]);refine⟨kF x,dZ,?_⟩;cases hh:D.has with
 |false=>
  have hE:eZ D=11:=by rw[eZ,hh];rfl
  rw[hE,hh]at aI;refine aj ?_;simp only[seval,hE,show ((11:Int)!=0)=true from rfl];refine aE ?_;refine ak ?_;refine a_ ?_;exact fz _ 0 11 aI
 |true=>
  have hE:eZ D=0:=by rw[eZ,hh];rfl
  rw[hE,hh]at aI;refine aj ?_;simp only[seval,hE,show ((0:Int)!=0)=false from rfl];refine aE ?_;refine aO ?_;refine aj ?_;simp only[seval,F.Sg,n5,hbs,hbq,bS];rw[SW (i:=28) (by rw[bS];exact SP _)];refine aJ ((ahI (s:=s) (q:=q) bZ (by have:=hx.eF;omega) (by have:=hx.c_;omega) ?_));(try simp only[seval]);refine a_ ?_;exact fz _ _ 0 aI
end
theorem z2:gG (SG .i64 0) 2=[iv 0,iv 0]:=rfl
section
variable {H:List aa}{k kp:AV->List aa->Prop}
end
namespace Tk
structure gQ where
 lo:Int
 hi:Int
 is:Bool
def gQ.add (b:gQ)(v:Int):gQ:=if b.is then⟨min b.lo v,max b.hi v,true⟩else⟨v,v,true⟩
end Tk
def Tk.gQ.l (b:gQ):List AV:=[iv b.lo,iv b.hi,bv b.is]
section
variable {lv:Bool}{H:List aa}{k kp:AV->List aa->Prop}
theorem ahN{b:gQ}{v:Int}{i:Nat}(hi:H[i]?=some (.cells b.l 112))(hk:k (.aK []) (H.set i (.cells (b.add v).l 112))):bc lv SC 74 H [.op i 0,iv v] k kp:=by
 refine bF (rs:=[]) (nt:=38) Tryz.f74 λhH hA=> ?_;simp only[bk,SX];have bx:=eM hi;obtain⟨hp,eU⟩:∃hp:List AV->List aa,∀l,hp l=H.set i (.cells l 112):=⟨_,λ_=>rfl⟩;have h0:H=hp b.l:=by rw[eU];exact(qi hi).symm
 have hg:∀l,(hp l)[i]?=some (.cells l 112):=λl=>by rw[eU,UI,if_pos rfl,if_pos bx]
 have hs:∀l l',(hp l).set i (.cells l' 112)=hp l':=λl l'=>by rw[eU,eU,W4]
 have fin:∀(N:Nat)(l:List AV),l=(b.add v).l->cD N (hp l) (.aK []) k:=λN l e=>by
  rw[e,eU];exact bT hk
 rw[h0];clear hH hA eU h0 hi hk;refine aj ?_;simp only[seval,hg,gQ.l];refine aE ?_;refine⟨λh=> ?_,λh=> ?_⟩
 ·have hb:b.is=false:=by simpa using h
  refine aj ?_;simp(maxSteps:=4000000) only[seval,hg,hs];refine qE [16,19] [0,1,2,3,4,5,6,7,8,9,10,11,12,13,14,15,16,17,18,19] [⟨0,false,[],[]⟩,⟨1,false,[],[([16],[16])]⟩,⟨2,false,[],[]⟩,⟨3,false,[],[]⟩,⟨4,false,[],[]⟩,⟨5,false,[],[]⟩,⟨6,false,[],[]⟩,⟨7,false,[],[]⟩,⟨8,false,[],[]⟩,⟨9,false,[],[]⟩,⟨10,false,[],[]⟩,⟨11,false,[],[]⟩,⟨12,false,[],[([16],[16])]⟩,⟨13,false,[],[([16],[16])]⟩,⟨14,false,[],[]⟩,⟨15,false,[],[]⟩,⟨16,true,[16],[]⟩,⟨17,false,[16],[]⟩,⟨18,false,[16],[]⟩,⟨19,true,[16,19],[]⟩] (λD=>bif isDone 19 D then hp [iv (min v v),iv (max v v),bv true]else bif isDone 16 D then hp [iv (min v v),iv v,bv true]else hp [iv v,iv v,bv true]) ?_;simp only[seval,hg,hs];have m1:(if v<v then v else v)=v:=by split<;>rfl
  have m2:min v v=v:=by omega
  have m3:max v v=v:=by omega
  rw[m1,m2,m3];exact⟨rfl,rfl,fin _ _ (by rw[gQ.add,if_neg (by rw[hb];decide)];rfl)⟩
 ·have hb:b.is=true:=by simpa using h
  refine aO ?_;refine qE [16,19] [0,1,2,3,4,5,6,7,8,9,10,11,12,13,14,15,16,17,18,19] [⟨0,false,[],[]⟩,⟨1,false,[],[([16],[16])]⟩,⟨2,false,[],[]⟩,⟨3,false,[],[]⟩,⟨4,false,[],[]⟩,⟨5,false,[],[]⟩,⟨6,false,[],[]⟩,⟨7,false,[],[]⟩,⟨8,false,[],[]⟩,⟨9,false,[],[]⟩,⟨10,false,[],[]⟩,⟨11,false,[],[]⟩,⟨12,false,[],[([16],[16])]⟩,⟨13,false,[],[([16],[16])]⟩,⟨14,false,[],[]⟩,⟨15,false,[],[]⟩,⟨16,true,[16],[]⟩,⟨17,false,[16],[]⟩,⟨18,false,[16],[]⟩,⟨19,true,[16,19],[]⟩] (λD=>bif isDone 19 D then hp [iv (min b.lo v),iv (max b.hi v),bv b.is]else bif isDone 16 D then hp [iv (min b.lo v),iv b.hi,bv b.is]else hp [iv b.lo,iv b.hi,bv b.is]) ?_;simp only[seval,hg,hs];have m1:(if v<b.lo then v else b.lo)=min b.lo v:=by split<;>omega
  have m2:(if b.hi<v then v else b.hi)=max b.hi v:=by split<;>omega
  rw[m1,m2];exact⟨rfl,rfl,fin _ _ (by rw[gQ.add,if_pos hb,hb];rfl)⟩
end
open Go.Conc Go.Proofs Go.Gg.Tk
namespace Tk
def u_ (hour:Nat)(hs:List (List Int)):gQ:=hs.foldl (λb h=>b.add (h.getD hour 0)) ⟨0,0,false⟩
end Tk
section
variable {lv:Bool}{H:List aa}{k kp:AV->List aa->Prop}
theorem ahM{x:ai}{hour:Nat}{ih ir:Nat}(hh:(hour:Int)<=x.hours)(h1:H[ih]?=some (.cells [iv hour] 3))(hr:H[ir]?=some (.cells x.l 26))(hk:k (bv true) H):bc lv SC 73 H [.op ih 0,.op ir 0] k kp:=by
 refine bF (rs:=[.tmp 2]) (nt:=8) Tryz.f73 λhH hA=> ?_;simp only[bk,SX];have bN:x.l=[iv x.first,iv x.hours,iv x.am,dN x.seen,aY x.pieces,aY x.aC]:=rfl;have cN:(decide ((hour:Int)<0)||decide ((hour:Int)>x.hours))=false:=by simp;omega
 refine ak ?_;refine aj ?_;simp only[seval,h1,hr,bN];refine aJ ((sj ?_));(try simp only[seval,cN]);refine a_ ?_;exact bT hk
theorem ahA{x:ai}{hour:Nat}(hx:x.Ok)(hh:(hour:Int)<=x.hours)(hm:H[0]?=some .main)(hk:∀D,fG x 0 D->(D.has=false->k (.aK [.agg [iv 0,iv 0],iv 11]) H)/\(D.has=true->∀hs:List (List Int),hs.Perm D.aL->k (.aK [.agg [iv (u_ hour hs).lo,iv (u_ hour hs).hi],iv 0]) H)):bc true SC 36 H [x.av,iv hour] k kp:=by
 refine bF (rs:=[.cell 4 46,.tmp 5]) (nt:=41) Tryz.f36 λhH hA=> ?_;simp only[bk,SX,ai.av];have hp:=hx.am;have JZ:=hx.hours;obtain⟨p,ew⟩:∃p:Nat,x.am=p:=⟨x.am.toNat,by omega⟩;have aQ:∀(L:List aa),(H++L)[H.length]?=L[0]?:=λL=>aW H L 0;have c9:∀(L:List aa),(H++L)[H.length+1]?=L[1]?:=λL=>aW H L 1;have kT:∀(L:List aa),(H++L)[H.length+2]?=L[2]?:=λL=>aW H L 2;have fP:∀(L:List aa)(y:aa),(H++L).set (H.length+2) y=H++L.set 2 y:=λL y=>dR H L 2 y;have bt:x.l.length=6:=rfl;have eC:T_ 6 x.l=x.l:=rfl;refine ak ?_;refine aj ?_;simp only[seval,aQ,bt,eC,T8,Uz,Uh,TP];refine aJ ((yL (x:=x) (b:=true) hx ew (fI hm) (λL k kp hk=>cJ (ahM hh (by rw[SD,c9];rfl) (by rw[SD,aQ];rfl) hk)) (λh=>by cases h) λ_ js D L mp ij jv bZ sH hg=> ?_));have eN:fG x 0 D:=⟨p,js,ew,ij,jv,bZ⟩;have bS:=Kn.len bZ mp;have dZ:=uu D mp;obtain⟨ik,cE⟩:=hk D eN;obtain⟨Bf,nW⟩:∃Bf:List AV->List aa,∀l,Bf l=H++([aa.cells x.l 26,.cells [iv hour] 3,.cells l 46]++L):=⟨_,λ_=>rfl⟩;have sr:H++[aa.cells x.l 26,.cells [iv hour] 3,.cells [iv 0,iv 0] 46]++L=Bf [iv 0,iv 0]:=by rw[nW,SD]
 obtain⟨N,hN⟩:∃N,N=H.length+3+L.length:=⟨_,rfl⟩;have fJ:∀l,(Bf l).length=N:=λl=>by rw[nW,hN];simp;omega
 have b1:∀l (L':List aa),(Bf l++L')[H.length+1]?=some (.cells [iv hour] 3):=λl L'=>by rw[nW,SD,c9];rfl
 have b2:∀l (L':List aa),(Bf l++L')[H.length+2]?=some (.cells l 46):=λl L'=>by rw[nW,SD,kT];rfl
 have tH:∀l l' (L':List aa),(Bf l++L').set (H.length+2) (.cells l' 46)=Bf l'++L':=λl l' L'=>by rw[nW,SD,fP,nW];simp
 have bn:∀l (L':List aa)(j:Nat),(Bf l++L')[N+j]?=L'[j]?:=λl L' j=>by rw[<- fJ l,aW]
 have va:∀l (L':List aa)(j:Nat)(y:aa),(Bf l++L').set (N+j) y=Bf l++L'.set j y:=λl L' j y=>by rw[<- fJ l,dR]
 rw[sr]at hg⊢;have fz:∀(l:List AV)(L':List aa)(a b:Int)(m:Int),k (.aK [.agg [iv a,iv b],iv m]) H->cD H.length (Bf l++L') (.aK [.agg [iv a,iv b],iv m]) k:=λl L' a b m h=>by
  rw[nW,SD];exact jM hH (Wk.refl _) (by simp[jz,eD,sV]) h
 (try simp only[seval,ai.av,bt,bS,fJ]);refine⟨kF x,dZ,?_⟩;cases iH:D.has with
 |false=>
  have hE:eZ D=11:=by rw[eZ,iH];rfl
  refine aj ?_;simp only[seval,hE,show ((11:Int)!=0)=true from rfl];refine aE ?_;refine aj ?_;simp only[seval,b2,tH];refine nS ?_;simp only[seval,b2];exact fz _ _ 0 0 11 (ik iH)
 |true=>
  have hE:eZ D=0:=by rw[eZ,iH];rfl
  refine aj ?_;simp only[seval,hE,show ((0:Int)!=0)=false from rfl];refine aE ?_;refine aO ?_;refine aj ?_;simp only[seval,fJ];refine aj ?_;simp only[seval,T8,Uz,Uh,TP];have oO:(D.l mp).drop 1=.mp mp::((D.l mp).drop 2):=rfl;obtain⟨ts,dQ⟩:∃ts,ts=D.aL.zipIdx:=⟨_,rfl⟩;obtain⟨ck,EN⟩:∃ck,ck=D.aL.length:=⟨_,rfl⟩;have vH:∀l (L':List aa),(Bf l++L')[mp]?=some (.obj (.map (ts.map eo).toArray ck)):=λl L'=>by
   have h0:(Bf [iv 0,iv 0])[mp]?=some (setH D.aL):=hg;have aG:mp≠H.length+2:=λe=>by
    have:=b2 [iv 0,iv 0] [];rw[SY,<- e,h0]at this;cases this
   have h1:(Bf l)[mp]?=some (setH D.aL):=by
    have:=tH [iv 0,iv 0] l [];rw[SY,SY]at this;rw[<- this,T6 (λe=>aG e.symm)];exact h0
   rw[dQ,EN];exact fI h1
  have pK:∀y∈ts,y.2<ck:=λy hy=>by rw[dQ]at hy;have:=List.snd_lt_add_of_mem_zipIdx hy;omega
  have B5:(ts.map (·.2)).Nodup:=by rw[dQ,show (λy:List Int×Nat=>y.2)=Prod.snd from rfl,List.zipIdx_map_snd];exact List.nodup_range'
  have h4:∀y∈ts,y.1.length=4:=λy hy=>by rw[dQ]at hy;exact bZ.h4 _ (Do hy)
  have fy:=Oc ts ck pK;have KT:ts.map (·.1)=D.aL:=by rw[dQ,show (λy:List Int×Nat=>y.1)=Prod.fst from rfl,List.zipIdx_map_fst]
  clear dQ;refine aj ?_;simp only[seval,fJ,bn,oO,vH];obtain⟨jR,eU⟩:∃jR:gQ->Array Nat->List aa,∀b sn,jR b sn=Bf [iv 0,iv 0]++[.cells x.l 76,.cells (D.l mp) 88,.cells b.l 112,.iter mp ck sn ck]:=⟨_,λ_ _=>rfl⟩;have p1:∀b sn (L':List aa),(jR b sn++L')[H.length+1]?=some (.cells [iv hour] 3):=λb sn L'=>by rw[eU,SD];exact b1 _ _
  have p2:∀b sn (L':List aa),(jR b sn++L')[N+2]?=some (.cells b.l 112):=λb sn L'=>by rw[eU,SD,bn];rfl
  have p3:∀b sn (L':List aa),(jR b sn++L')[N+3]?=some (.iter mp ck sn ck):=λb sn L'=>by rw[eU,SD,bn];rfl
  have p3':∀b sn,(jR b sn)[N+3]?=some (.iter mp ck sn ck):=λb sn=>by have:=p3 b sn [];rwa [SY]at this
  have p4:∀b sn (L':List aa),(jR b sn++L')[N+4]?=L'[0]?:=λb sn L'=>by rw[eU,SD,bn];rfl
  have pm:∀b sn (L':List aa),(jR b sn++L')[mp]?=some (.obj (.map (ts.map eo).toArray ck)):=λb sn L'=>by rw[eU,SD];exact vH _ _
  have Mb:∀b sn,(jR b sn)[mp]?=some (.obj (.map (ts.map eo).toArray ck)):=λb sn=>by have:=pm b sn [];rwa [SY]at this
  have s2:∀b sn b' (L':List aa),(jR b sn++L').set (N+2) (.cells (gQ.l b') 112)=jR b' sn++L':=λb sn b' L'=>by rw[eU,SD,va,eU,SD];rfl
  have s3:∀b sn ML,(jR b sn).set (N+3) (.iter mp ck ML ck)=jR b ML:=λb sn ML=>by rw[eU,va,eU];rfl
  have pl:∀b sn,(jR b sn).length=N+4:=λb sn=>by rw[eU];simp[fJ]
  have aP:Bf [AV.val (SG SE 0),AV.val (SG SE 0)]++[.cells x.l 76,.cells (D.l mp) 88,.cells [AV.val (SG SE 0),AV.val (SG SE 0),AV.val (W9 false)] 112,.iter mp ck #[] ck]=jR ⟨0,0,false⟩ #[]:=by rw[eU];rfl
  rw[aP];have oR:hour<4:=by omega
  have b4:(0<=(hour:Int)/\(hour:Int)<4)=True:=by simp;omega
  have s46:∀b sn l,(jR b sn).set (H.length+2) (.cells l 46)=Bf l++[.cells x.l 76,.cells (D.l mp) 88,.cells b.l 112,.iter mp ck sn ck]:=λb sn l=>by rw[eU,tH]
  have p46:∀b sn,(jR b sn)[H.length+2]?=some (.cells [iv 0,iv 0] 46):=λb sn=>by rw[eU,b2]
  have p2':∀b sn,(jR b sn)[N+2]?=some (.cells (gQ.l b) 112):=λb sn=>by have:=p2 b sn [];rwa [SY]at this
  refine cI ?_;refine yu (measure λvs:List (List Int×Nat)=>ts.length-vs.length).wf (λvs=>[]) (λvs=>jR (u_ hour (vs.map (·.1))) (vs.map (·.2)).toArray) (λvs=>(vs.map (·.2)).Nodup/\∀y∈vs,y∈ts) [] (λ_ _=>rfl) (by simp) rfl (λ_ _=>by simp[pl]) ⟨by simp,by simp⟩ (λce db vs ay R hR=> ?_);refine aj ?_;simp only[seval,p3',Mb,s3];refine⟨fy.elim .inl (λh=> .inr (.inl h)),λe he hn=> ?_,λhs=> ?_⟩
  ·obtain⟨y,hy,rfl⟩:∃y∈ts,eo y=e:=(by simpa using he);refine aE ?_;refine aO ?_;refine cI ?_;have sq:=h4 y hy;have Jx:(eo y).born=y.2:=rfl;have hlen:(y.1.map iv).length=4:=(by simp[sq]);have JG:Ue 4 [AV.val (SG SE 0),AV.val (SG SE 0),AV.val (SG SE 0),AV.val (SG SE 0)]=[]:=rfl;obtain⟨w,hw⟩:=cy (xs:=y.1) (i:=hour) (by omega);have KV:y.1.getD hour 0=w:=(by rw[SF,hw];rfl);have K0:y.2∉vs.map (·.2):=(by simpa[eo]using hn);have Fo:((vs.map (·.2)).toArray.push y.2)=((vs++[y]).map (·.2)).toArray:=(by simp);have ajd:(u_ hour (vs.map (·.1))).add w=u_ hour ((vs++[y]).map (·.1)):=by
    unfold u_;rw[TE,ZK];show _=gQ.add _ (y.1.getD hour 0);rw[KV]
   have sI:((vs++[y]).map (·.2)).Nodup/\∀z∈vs++[y],z∈ts:=by
    refine⟨?_,λz hz=> ?_⟩
    ·rw[TE,U3];refine⟨ay.1,by simp,λa ha b hb=> ?_⟩;simp at hb;subst hb;intro e;subst e;exact K0 ha
    ·rcases SS.1 hz with h|h
     ·exact ay.2 z h
     ·rw[S8.1 h];exact hy
   have asJ:vs.length<ts.length:=by
    have h1:(vs++[y]).Nodup:=CK _ sI.1;have:=h1.length_le_of_subset sI.2;simp at this;omega
   have q_:ts.length-(vs++[y]).length<ts.length-vs.length:=(by simp;omega);have Fh:∀b sn,bM (jR b sn):=λb sn z hz=>by
    have P3:bM (jR ⟨0,0,false⟩ #[]):=ce;rw[pl];rw[eU]at hz;have cN:∀z,z∈jR ⟨0,0,false⟩ #[]->eY (N+4) z:=λz hz=>by
     have:=P3 z hz;rwa [pl]at this
    rcases SS.1 hz with h|h
    ·exact cN z (by rw[eU];exact Tg _ h)
    ·simp only[SL,S4,or_false]at h;rcases h with rfl|rfl|rfl|rfl
     ·exact cN _ (by rw[eU];simp)
     ·exact cN _ (by rw[eU];simp)
     ·intro a ha;simp only[gQ.l,SL,S4,or_false]at ha;rcases ha with rfl|rfl|rfl<;>exact .val _
     ·show mp<N+4;have:=eM (Mb ⟨0,0,false⟩ #[]);rwa [pl]at this
   refine aj ?_;simp only[seval,p3',Mb,s3,pl,p4,Jx,Array.back?_push,Pq B5 hy,aaY,sq,hlen,JG];refine aj ?_;simp only[seval,p1,p4,b4,kL hw];refine aJ ((ahN (b:=u_ hour (vs.map (·.1))) (v:=w) (i:=N+2) (p2 _ _ _) ?_));rw[s2,ajd,Fo];(try simp only[seval]);refine hR _ ⟨vs++[y],q_,sI,?_⟩;exact abw (o_ rfl rfl) (by simp only[seval]<;>simp[bA,Wk.refl]) (Fh _ _) (by simp[eD])
  ·have nz:vs.Perm ts:=abG ay.1 B5 ay.2 λy hy=>by
    have:=hs (eo y) (by simp;exact⟨y.1,y.2,hy,rfl⟩) (pK y hy);simpa[eo]using this
   have Ky:(vs.map (·.1)).Perm D.aL:=by
    have:=nz.map (·.1);rw[KT]at this;exact this
   have aI:=cE iH _ Ky;generalize EJ:u_ hour (vs.map (·.1))=bv' at aI;refine aE ?_;refine b_ ?_;refine aj ?_;simp only[seval,p2',p46,s46,gQ.l,EJ];refine nS ?_;simp only[seval,b2];exact fz _ _ _ _ 0 aI
end
open Go.Conc Go.Proofs Go.Gg.Tk
namespace Tk
end Tk
section
variable {lv:Bool}{H:List aa}{k kp:AV->List aa->Prop}
end
open Go.Conc Go.Proofs Go.Gg.Tk
namespace Tk
def zF (out n:Int):Int:=if 0<=n/\(out<0\/n<out)then n else out
def xO (l:List Int):Int:=l.foldl zF (-1)
def tQ (aT:List Nat)(i:Nat):List Int:=(S0 i).flatMap λs=>if 1<(fB (aT.getD s 0) 0 16).length then[-1]else fB (aT.getD s 0) 0 16
theorem PR(aT:List Nat)(i:Nat):tQ aT (i+1)=tQ aT i++(if 1<(fB (aT.getD i 0) 0 16).length then[-1]else fB (aT.getD i 0) 0 16):=by
 unfold tQ;rw[Vh,Vv];simp
theorem PQ(aT:List Nat):∀i,(tQ aT i).length<=i
 |0=>by simp[tQ]
 |i+1=>by
  have:=PQ aT i;rw[PR,SQ];split
  ·simp;omega
  ·omega
end Tk
theorem G4{a a' b b':AV}(h1:Wk a a')(h2:Wk b b'):Wk (.aK [a,b]) (.aK [a',b']):=λE v h=>by
 cases h with
 |aK hs h=>
  refine .aK hs λi x e=> ?_
  match i with
  |0=>cases e;exact h1 _ _ (h 0 a rfl)
  |1=>cases e;exact h2 _ _ (h 1 b rfl)
open Go.Conc Go.Proofs Go.Gg.Tk
section
variable {lv:Bool}{H:List aa}{k kp:AV->List aa->Prop}
theorem ahr{x:ai}(hx:x.Ok)(hm:H[0]?=some .main)(hk:∀D,fG x 2 D->(D.has=false->k (.aK [br [],iv 11]) H)/\(D.has=true->k (.aK [br (tQ D.aT x.aC.length),iv 0]) H)):bc true SC 26 H [x.av] k kp:=by
 refine bF (rs:=[.tmp 2,.tmp 3]) (nt:=39) Tryz.f26 λhH hA=> ?_;simp only[bk,SX,ai.av];have hp:=hx.am;have aP:=hx.eF;obtain⟨p,ew⟩:∃p:Nat,x.am=p:=⟨x.am.toNat,by omega⟩;have bN:x.l=[iv x.first,iv x.hours,iv x.am,dN x.seen,aY x.pieces,aY x.aC]:=rfl;have aQ:∀(L:List aa),(H++L)[H.length]?=L[0]?:=λL=>aW H L 0;have bt:x.l.length=6:=rfl;have eC:T_ 6 x.l=x.l:=rfl;refine ak ?_;refine aj ?_;simp only[seval,aQ,bt,eC];refine aJ ((yL (x:=x) hx ew (fI hm) HN (λh=>by cases h) λ_ js D L mp ij jv bZ sH hg=> ?_));have eN:fG x 2 D:=⟨p,js,ew,ij,jv,bZ⟩;have bS:=Kn.len bZ mp;have dZ:=uu D mp;obtain⟨ik,cE⟩:=hk D eN;obtain⟨Y,hY⟩:∃Y:List aa,Y=[aa.cells x.l 26]++L:=⟨_,rfl⟩;obtain⟨B,hB⟩:∃B,B=H++Y:=⟨_,rfl⟩;have sr:H++[aa.cells x.l 26]++L=B:=by rw[hB,hY,SD]
 have yY:∀(L':List aa),(B++L')[H.length]?=some (.cells x.l 26):=λL'=>by rw[hB,hY,SD,aQ];rfl
 have bn:∀(L':List aa)(j:Nat),(B++L')[B.length+j]?=L'[j]?:=λL' j=>aW B L' j;have va:∀(L':List aa)(j:Nat)(y:aa),(B++L').set (B.length+j) y=B++L'.set j y:=λL' j y=>dR B L' j y;have fz:∀(L':List aa)(ns:List Int)(e:End)(m:Int),k (.aK [br ns,iv m]) H->cD H.length (B++L') (.aK [.sl ns.length (ns.map iv) e,iv m]) k:=λL' ns e m h=>by
  rw[hB,SD];exact jM hH (G4 (iA _ _ _) (Wk.refl _)) (by simp[jz,eD,br,uA]) h
 rw[sr];clear sr hg;(try simp only[seval,ai.av,bt,bS]);refine⟨kF x,dZ,?_⟩;cases iH:D.has with
 |false=>
  have hE:eZ D=11:=by rw[eZ,iH];rfl
  refine aj ?_;simp only[seval,hE,show ((11:Int)!=0)=true from rfl];refine aE ?_;refine ak ?_;refine a_ ?_;exact fz _ [] .exact 11 (ik iH)
 |true=>
  have hE:eZ D=0:=by rw[eZ,iH];rfl
  refine aj ?_;simp only[seval,hE,show ((0:Int)!=0)=false from rfl];refine aE ?_;refine aO ?_;refine ak ?_
  (repeat apply gT);refine u6 (t:=7) (sz:=1) (el:=3) (by simp only[seval]<;>rfl) ?_
  have tZ:Ue 5 x.l=[.sl x.aC.length (x.aC.flatMap aB.l) .shut]:=rfl;refine aj ?_;simp only[seval,yY,tZ];have A2:∀(L':List aa),(B++L')[B.length+1]?=L'[1]?:=λL'=>bn L' 1;have yx:∀(L':List aa),(B++L')[B.length+2]?=L'[2]?:=λL'=>bn L' 2;have tH:∀(L':List aa)(y:aa),(B++L').set (B.length+2) y=B++L'.set 2 y:=λL' y=>va L' 2 y;obtain⟨gl,od⟩:∃gl:Nat->List Int,∀i,gl i=tQ D.aT i:=⟨_,λ_=>rfl⟩;have BS:gl 0=[]:=by rw[od];rfl
  have JW:∀i,(gl i).length<=i:=λi=>by rw[od];exact PQ _ _
  refine cI ?_;refine gJ x.aC.length (λi:Nat=>[(7,.sl (gl i).length ((gl i).map iv) (.opn (B.length+2))),(22,iv i)]) (λi=>B++[.cells x.l 76,.cells (D.l mp) 88,.tail (gl i).length 1 3]) (λi=>True) (λ_ _=>rfl) (by rw[BS];simp only[seval];simp[bA,Wk.refl]) (by rw[BS];rfl) (λ_ _ _=>by simp) trivial (λce db i cN _ R hR=> ?_);refine ak ?_;refine aE ?_;refine⟨λh=> ?_,λh=> ?_⟩
  ·have bx:i<x.aC.length:=(by omega);obtain⟨u,hu⟩:=cy (xs:=D.aT) (i:=i) (by rw[bZ.aT];omega);have lu:=bZ.lM _ (Te hu);have b3:(0<=(i:Int)/\(i:Int)<3)=True:=(by simp;omega);have fL:SE.wrap ((i:Int)+1)=((i+1:Nat):Int):=(by rw[bG _ (by omega)];rfl);have BN:=Kn.CU bZ (mp:=mp) hu;have cZ:gl (i+1)=gl i++(if 1<(fB u 0 16).length then[-1]else fB u 0 16):=by
    rw[od,od,PR,SF,hu];rfl
   have Q3:=JW i;have im:=LH u 0 16;refine aO ?_;refine ak ?_;refine aj ?_;simp only[seval,A2,b3,BN];refine aJ ((II lu (by decide) ?_));(try simp only[seval,br]);refine ak ?_;refine aE ?_;refine⟨λhb=> ?_,λhb=> ?_⟩
   ·refine aj ?_;simp only[seval,z1];(try refine⟨by decide,?_⟩);refine aj ?_;simp only[seval,yx,tH];refine⟨by omega,?_⟩;refine aj ?_;simp only[seval,fL];have n5:1<(fB u 0 16).length:=(by have h2:(1:Int)<((fB u 0 16).length:Int):=(by simpa using hb);omega);rw[if_pos n5]at cZ;refine hR _ ⟨bx,trivial,?_⟩;rw[cZ,TE,SQ];exact dD
   ·refine aO ?_;refine aj ?_;simp only[seval,yx,tH];refine⟨by omega,?_⟩;refine aj ?_;simp only[seval,fL];have n5:¬1<(fB u 0 16).length:=(by have h2:((fB u 0 16).length:Int)<=1:=(by simpa using hb);omega);rw[if_neg n5]at cZ;refine hR _ ⟨bx,trivial,?_⟩;rw[cZ,TE,SQ];exact dD
  ·have du:i=x.aC.length:=(by omega);subst du;refine b_ ?_;refine ak ?_;refine a_ ?_;have aI:=cE iH;rw[<- od]at aI;exact fz _ _ _ 0 aI
theorem ahJ{ns:List Int}{e:End}(iX:ns.length<=16)(hk:k (iv (xO ns)) H):bc lv SC 69 H [.sl ns.length (ns.map iv) e] k kp:=by
 refine bF (rs:=[.tmp 2]) (nt:=26) Tryz.f69 λhH hA=> ?_;simp only[bk,SX];refine ak ?_;refine ak ?_;refine ak ?_;refine cI ?_;refine gJ ns.length (λi:Nat=>[(3,iv (xO (ns.take i))),(8,iv i)]) (λ_=>_) (λi=>True) (λ_ _=>rfl) (by simp only[seval];simp[bA,Wk.refl];exact Wk.refl _) rfl (λ_ _ _=>rfl) trivial (λce db i cN _ R hR=> ?_);refine ak ?_;refine aE ?_;refine⟨λh=> ?_,λh=> ?_⟩
 ·have bx:i<ns.length:=by omega
  obtain⟨n,hn⟩:=cy bx;have fL:SE.wrap ((i:Int)+1)=((i+1:Nat):Int):=by rw[bG _ (by omega)];rfl
  have cZ:xO (ns.take (i+1))=zF (xO (ns.take i)) n:=by
   unfold xO;rw[VE,hn,ZK];rfl
  generalize xO (ns.take i)=o at cZ hR⊢;refine aO ?_;refine aj ?_;simp only[seval,gE hn,jl bx];by_cases c1:0<=n
  ·have d1:decide (n>=0)=true:=decide_eq_true c1;by_cases c2:o<0
   ·have d2:decide (o<0)=true:=decide_eq_true c2;refine aj ?_;simp only[seval,d1,d2];refine aE ?_;refine ak ?_;refine aj ?_;simp only[seval,fL];rw[zF,if_pos ⟨c1,.inl c2⟩]at cZ;refine hR _ ⟨bx,trivial,?_⟩;rw[cZ];exact dD
   ·have d2:decide (o<0)=false:=decide_eq_false c2;by_cases c3:n<o
    ·have d3:decide (n<o)=true:=decide_eq_true c3;refine aj ?_;simp only[seval,d1,d2,d3];refine aE ?_;refine ak ?_;refine aj ?_;simp only[seval,fL];rw[zF,if_pos ⟨c1,.inr c3⟩]at cZ;refine hR _ ⟨bx,trivial,?_⟩;rw[cZ];exact dD
    ·have d3:decide (n<o)=false:=decide_eq_false c3;refine aj ?_;simp only[seval,d1,d2,d3];refine aE ?_;refine aO ?_;refine aj ?_;simp only[seval,fL];rw[zF,if_neg (λhc=>hc.2.elim c2 c3)]at cZ;refine hR _ ⟨bx,trivial,?_⟩;rw[cZ];exact dD
  ·have d1:decide (n>=0)=false:=decide_eq_false c1;(repeat apply gT);refine aeW (by kernel_rfl) ?_;simp only[seval,d1];refine aE ?_;refine aO ?_;refine aj ?_;simp only[seval,fL];rw[zF,if_neg (λhc=>c1 hc.1)]at cZ;refine hR _ ⟨bx,trivial,?_⟩;rw[cZ];exact dD
 ·have:i=ns.length:=by omega
  subst this;refine b_ ?_;refine ak ?_;refine a_ ?_;rw[TJ];exact bT hk
end
end Go.Gg
