/- A part of the proof. -/
import Derived.Test.YtkanpclgnhdbiaaGreatDoorTicketOrderCard2
import Derived.Conc.CrowdStepC
import Derived.Conc.LeavingOf
import Derived.Conc.AtomicLaws
import Derived.Conc.AtomicLaws2
import Derived.Conc.MarkLaws
import Derived.Conc.SmallLaws
import Derived.Laws.LoneSync
import Derived.KernelRfl
import Derived.Test.YtkanpclgnhdbiaaGreatDoorProg
import Derived.Conc.TokenWalk
set_option linter.all false
set_option maxRecDepth 4000
set_option maxHeartbeats 4000000
open Array renaming all_eq_true_iff_forall_mem->UE,append_assoc->Xt,empty_append->Xs,ext'->VC,getD_eq_getD_getElem?->SI,getElem?_eq_getElem->SJ,getElem?_eq_some_iff->SS,getElem?_push->Xk,getElem?_setIfInBounds->Wp,getElem?_setIfInBounds_ne->SR,getElem?_setIfInBounds_self_of_lt->S9,getElem_mem->XX,isEmpty_empty->Y0,mem_iff_getElem?->V_,replicate->TE,size->ad_
open BitVec renaming ofInt->Ud
open Bool renaming and_eq_true->Ti,eq_iff_iff->UI,false_or->Zv,not_eq_true'->TV,not_false->YF,not_true->am',true_or->ah'
open Classical renaming byContradiction->Tt
open Eq renaming trans->VL
open Function renaming comp_def->Yy
open Go renaming Addr->U4,CallKind->Xg,Code->T7,Deferred->UX,Event->Uq,Frame->T8,FrameMode->U9,Func->YD,FuncId->TN,GStep->ZC,Goroutine->SH,IntKind->TU,Item->WW,Machine->ar',MemOp->Wd,Oper->Tx,Operand->Tl,Program->SK,ResultVar->UM,Trace->Ui,Value->SO,World->Tq,mark->af',step->af_
open Go.Conc renaming Deaf->US,Deaf_other->atA,Good->W1,Knows->Wn,QuitsD->Y5,act?_of->ah_,casT_eq->Z4,crowd_pick->ZY,deaf_succ->ac_,finishComm_recv->Yx,finishComm_send->ag',getElem?_stand->Ya,heard_old->Wr,knows_own->Zb,lt_size_of_getElem?->TH,mem_ofEvents->TK,mem_of_getElem?->XW,offersAt_of_not_blocked->UV,offersAt_parked_send->ZE,offersAt_ph->Zl,runT_crowd_spawn->ab',seen_none->ab_,served->T1,stepG_entry->ZD,stepG_same->Xf,stepG_value->atz,touch_of->UU,woken_run->Yl
open Go.Conc.QuitsD renaming status->ZF
open Go.ConcN renaming le_sumTo->WC,sumTo_congr->Vl
open Go.Event renaming mute->WH
open Go.Extern.Atomic renaming casT->WX,loadT->X5,storeT->XV,update->XU
open Go.Extern.Race renaming marked->VK,none_->W8
open Go.Extern.Sync renaming semacquire->WG,semrelease->XT
open Go.GStep renaming after->TZ
open Go.Goroutine.mk renaming injEq->ag_
open Go.Instr renaming loadAt->XD,sureAddr->Va
open Go.IntKind renaming i64->SF,u32->al_,u64->TA,wrap->Xe
open Go.MemAct renaming ofEvent->Ts
open Go.MemOp renaming ofEvents->Te
open Go.Obj renaming deferred->atI
open Go.Op renaming intArith->atH
open Go.Operand renaming const->atG,tmp->ZB
open Go.Proofs.Tryz renaming f60->ao_,f77->XQ,prog->SC
open Go.Region renaming wanted->Tc
open Go.Result renaming ok->Yh
open Go.Sem renaming runT_eq->TB
open Go.Trace renaming g?->WA
open Go.Value renaming chan->XS,int->SG
open Go.World renaming cell?->Uy,frozen?->ZT,setChan->Wh
open Int renaming ofNat_inj->Z1,toNat_natCast->Vz
open List renaming any_cons->YS,any_eq_true->UL,append_assoc->SD,append_nil->SZ,cons_append->VE,drop->UD,drop_eq_nil_of_le->TO,ext_getElem?->Yo,findIdx?_eq_none_iff->Yf,findIdx?_eq_some_iff_getElem->Xv,foldl_cons->UY,forall_mem_cons->Xi,getD_eq_getElem?_getD->SE,getElem?_append_left->SW,getElem?_append_right->Tg,getElem?_drop->Ul,getElem?_eq_getElem->SP,getElem?_eq_none->Uu,getElem?_eq_some_iff->SN,getElem?_map->Tj,getElem?_range->Xz,getElem?_set->UT,getElem?_toArray->Ve,getElem_mem->VF,getLast?_eq_some_getLast->XR,getLastD_eq_getLast?->Vh,getLast_mem->Zo,head?_append->WQ,length_append->SQ,length_cons->Uh,length_map->To,length_nil->UQ,length_pos_iff->Vx,length_singleton->T6,mapM_cons->Ue,mapM_nil->UF,mapM_toArray->X4,map_append->TF,map_cons->UW,mem_append->SV,mem_append_left->Th,mem_append_right->S5,mem_cons->SL,mem_flatMap->S6,mem_iff_getElem?->UP,mem_map->Tn,mem_of_getElem?->Tf,mem_range->TG,mem_replicate->Xy,mem_singleton->Tb,mem_toArray->TJ,nil_append->Uw,nodup_append->U8,nodup_nil->WN,nodup_range->XZ,not_mem_nil->S4,range->S0,range_succ->Vk,replicate->TL,set_append_left->Wz,set_cons_succ->UC,set_cons_zero->TY,set_set->W9,take->Un,take_add_one->VJ,take_append_of_le_length->Tw,take_length->TP,take_of_length_le->SY,take_succ_eq_append_getElem->XL
open List.cons renaming inj->Vw
open Nat renaming add_sub_cancel_left->UR,add_zero->UK,eq_zero_or_pos->UZ,le_refl->SU,le_trans->UB,lt_of_lt_of_le->Td,lt_succ_self->Um,reduceAdd->SX,reduceEqDiff->Zw
open Option renaming bind_eq_bind->TS,bind_eq_some_iff->S_,getD_none->Vm,getD_some->S8,map_eq_some_iff->Tp,map_some->UN,pure_def->Uf
open Option.some renaming inj->VX,injEq->Tm
open Prod.mk renaming inj->W2,injEq->U0
namespace Go.Gg
open Go.Conc Go.ConcN
section
variable {P:SK}{n0:Nat}{W0:Tq}{V:View}{gs gs':Array SH}{w w':Tq}{sl:Option (Nat×Nat)}{t:Ui}{K:Nat->GS}{Im:cC}{ic:Nat}{p:Phase}{st st':Option eC}
theorem Gb(Im:cC):mE {noView with ab:=Im} {noView with ab:=Im}:=⟨λ_=> .inr rfl,λ_ _=> .inr rfl,λ_ _ _=>rfl⟩
theorem ami(Im:cC):mE noView {noView with ab:=Im}:=⟨λ_=> .inr rfl,λ_ _=> .inl rfl,λb hb=>absurd rfl hb⟩
theorem Inv.yS(h:Inv P n0 W0 V gs w t K Im ic (some p) st)(aI:p.recv=true){gi bB:SH}{es:Array Uq}{k':GS}{a:U4}{s:eC}(hs:st=some s)(aM:gs[ic]?=some gi)(aT:stepG P false gi w=.go bB w' es)(hd:US t ic=1)
  (ha:Atom a es) (zi:a=ec p.Wg\/a=oJ p.Wg) (nO:w'=w\/∃x,w'=w.setCell a x) (hk:k'.is P p.c p.Wg Im p.Ss 1 bB) (hv:k'.view Im={noView with ab:=Im}) (uF:(K ic).view Im={noView with ab:=Im}) (db:k'.idx=none) (uv:(K ic).idx=none)
  (gI:∃n,w.heap[p.c]?=some (.chan 0 #[] false n n false))
  (xJ:Mode P p.c p.Wg gs.size w' ((gs.map (woken P gi bB w')).setIfInBounds ic bB) (t++Te ic gi.frame.fn gi.frame.place es) (upd K ic k') ic s) (uB:qP k'.dc (K ic).dc):gD P n0 W0 V gs w sl t K Im ic (some p) st ic:=by
 obtain⟨s',_,gw,_,_⟩:=h.mode aI;exact h.D5 aI hs gw aM aT hd ha zi nO hk (by rw[hv,uF];exact Gb Im) (λ_=>rfl) db uv (.inl rfl) gI xJ uB
theorem Inv.ajX(h:Inv P n0 W0 V gs w t K Im ic (some p) st)(aI:p.recv=true){k n:Nat}{gi:SH}(aM:gs[ic]?=some gi)(hK:K ic=.head k n)(jE:eN P Im p.c p.Wg k (US t ic) gi):gD P n0 W0 V gs w sl t K Im ic (some p) st ic:=by
 obtain⟨s,hs,gw,iP,hm⟩:=h.mode aI;obtain⟨m1,m2,m3,m4,m5,m6⟩:=hm.aeX (k:=k) (by rw[hK];rfl);obtain⟨k,rfl⟩:∃k',k=k'+1:=⟨k-1,by omega⟩;obtain⟨hd,bL,FK⟩:=eN.succ _ _ _ _ jE;obtain⟨g',aT,hz,KB⟩:=FK _ (by omega) m4;have lQ:=aT w m5;have ua:∀k':GS,k'.cnt=0->k'.late=0->sumTo gs.size (λi=>(upd K ic k' i).cnt)=(sumTo gs.size λi=>(K i).cnt)/\sumTo gs.size (λi=>(upd K ic k' i).late)=(sumTo gs.size λi=>(K i).late):=λk' h1 h2=>
  ⟨lA K k' GS.cnt (by rw[h1,hK];rfl),lA K k' GS.late (by rw[h2,hK];rfl)⟩
 by_cases hv:(sumTo gs.size λi=>(K i).cnt)=0
 ·obtain⟨n',dN⟩:=hz hv;refine h.yS aI (k':=.acq n') (a:=ec p.Wg) hs aM lQ hd (.inl rfl) (.inl rfl) (.inl rfl) dN rfl (by rw[hK];rfl) rfl (by rw[hK];rfl) m1 ?_ (by rw[hK];exact .inl (by simp[GS.dc];omega));unfold Mode;simp only[(ua (.acq n') rfl rfl).1,(ua (.acq n') rfl rfl).2,bw];refine .inr (.inr (.inr (.inr (.inl ⟨m1,m2,m3,hv,?_,.inr rfl⟩))));rw[hv]at m5;simpa using m5
 ·obtain⟨n',dN⟩:=KB hv;refine h.yS aI (k':=.ma (sumTo gs.size λi=>(K i).cnt) n') (a:=ec p.Wg) hs aM lQ hd (.inl rfl) (.inl rfl) (.inl rfl) dN rfl (by rw[hK];rfl) rfl (by rw[hK];rfl) m1 ?_ (by rw[hK];exact .inl (by simp[GS.dc];omega));unfold Mode;simp only[(ua (.ma _ n') rfl rfl).1,(ua (.ma _ n') rfl rfl).2,bw];exact .inl ⟨m1,m2,m3,m4,m5,.inr ⟨_,rfl,SU _,by omega⟩⟩
theorem Inv.afY(h:Inv P n0 W0 V gs w t K Im ic (some p) st)(aI:p.recv=true){v n:Nat}{gi:SH}(aM:gs[ic]?=some gi)(hK:K ic=.ma v n)(jE:Dt P p.c p.Wg Im v (US t ic) gi):gD P n0 W0 V gs w sl t K Im ic (some p) st ic:=by
 obtain⟨s,hs,gw,iP,hm⟩:=h.mode aI;obtain⟨m1,m2,m3,m4,m5,m6,m7⟩:=hm.aeW (v:=v) (by rw[hK];rfl);obtain⟨hd,bL,⟨g1,FJ,n1,ak4⟩,aki⟩:=jE;have rk:p.c≠p.Wg:=h.phase.2.2.1;have ua:∀k':GS,k'.cnt=0->k'.late=0->sumTo gs.size (λi=>(upd K ic k' i).cnt)=(sumTo gs.size λi=>(K i).cnt)/\sumTo gs.size (λi=>(upd K ic k' i).late)=(sumTo gs.size λi=>(K i).late):=λk' h1 h2=>
  ⟨lA K k' GS.cnt (by rw[h1,hK];rfl),lA K k' GS.late (by rw[h2,hK];rfl)⟩
 by_cases hv:(sumTo gs.size λi=>(K i).cnt)=v
 ·refine h.yS aI (k':=.said n1) (a:=ec p.Wg) hs aM (FJ w (by rw[<- hv];exact m5)) hd (.inr (.inr (.inl rfl))) (.inl rfl) (.inr ⟨_,rfl⟩) ak4 rfl (by rw[hK];rfl) rfl (by rw[hK];rfl) m1 ?_ (by rw[hK];exact .inl (by simp[GS.dc];omega));unfold Mode;simp only[(ua (.said n1) rfl rfl).1,(ua (.said n1) rfl rfl).2,bw];refine .inr (.inl ⟨?_,m2,m3,by omega,m4,?_,.inl rfl⟩)
  ·obtain⟨n,hn⟩:=m1;exact⟨n,by rw[vY _ _ _ (Ne.symm rk)];exact hn⟩
  ·rw[hv];exact m5.G4 _
 ·obtain⟨g',lQ,n',dN⟩:=aki (sumTo gs.size λi=>(K i).cnt) (by omega);refine h.yS aI (k':=.head v n') (a:=ec p.Wg) hs aM (lQ w m5) hd (.inl rfl) (.inl rfl) (.inl rfl) dN rfl (by rw[hK];rfl) rfl (by rw[hK];rfl) m1 ?_ (by rw[hK];exact .inl (by simp[GS.dc]));unfold Mode;simp only[(ua (.head v n') rfl rfl).1,(ua (.head v n') rfl rfl).2,bw];exact .inl ⟨m1,m2,m3,m4,m5,.inl ⟨v,rfl,by omega⟩⟩
theorem Inv.alQ(h:Inv P n0 W0 V gs w t K Im ic (some p) st)(aI:p.recv=true){n:Nat}{gi:SH}(aM:gs[ic]?=some gi)(hK:K ic=.last n)(jE:HH P Im p.c p.Wg (US t ic) gi):gD P n0 W0 V gs w sl t K Im ic (some p) st ic:=by
 obtain⟨s,hs,gw,iP,hm⟩:=h.mode aI;obtain⟨m1,m2,m3,m4,m5⟩:=hm.N5 (.inl (by rw[hK];rfl));obtain⟨hd,bL,g',aT,n',dN⟩:=jE;refine h.yS aI (k':=.acq n') (a:=ec p.Wg) hs aM (aT w m5) hd (.inl rfl) (.inl rfl) (.inl rfl) dN rfl (by rw[hK];rfl) rfl (by rw[hK];rfl) m1 ?_ (by rw[hK];exact .inl (by simp[GS.dc]));unfold Mode;have e1:sumTo gs.size (λi=>(upd K ic (.acq n') i).cnt)=0:=by rw[lA K (.acq n') GS.cnt (by rw[hK];rfl)];exact m4
 have e2:sumTo gs.size (λi=>(upd K ic (.acq n') i).late)=0:=by rw[lA K (.acq n') GS.late (by rw[hK];rfl)];exact m3
 simp only[e1,e2,bw];exact .inr (.inr (.inr (.inr (.inl ⟨m1,m2,trivial,trivial,m5,.inr rfl⟩))))
theorem Inv.aga(h:Inv P n0 W0 V gs w t K Im ic (some p) st)(aI:p.recv=true){n:Nat}{gi:SH}(aM:gs[ic]?=some gi)(hK:K ic=.ik n)(jE:Dv P Im p.c p.Wg (US t ic) gi):gD P n0 W0 V gs w sl t K Im ic (some p) st ic:=by
 obtain⟨s,hs,gw,iP,hm⟩:=h.mode aI;obtain⟨m1,m2,m3,mk⟩:=hm.N7 (.inr (by rw[hK];rfl));obtain⟨hd,bL,akt,vT,g',R9,n',dN⟩:=jE;have rk:p.c≠p.Wg:=h.phase.2.2.1;rcases m3 with⟨stv,hW⟩|⟨m4,m5,hW⟩
 ·
  have aT:=vT w stv hW;have akn:¬WgAt P p.Wg w 0 1:=λx=>by have:=(hW.inj x).2;cases this
  refine h.tG aI (k':=.ik 0) (s':=s) gw aM aT (.inr ⟨rfl,gi,rfl,by rw[hd];exact⟨rfl,bL,akt,vT,g',R9,n',dN⟩⟩) (by rw[hK];exact Gb Im) (λ_=>rfl) rfl (λj hj=>by rw[hK]at hj;cases hj) (.inl rfl) (by simp) (by simp) (by simp) rfl (λ_ _ _=>rfl) rfl rfl rfl
   (mk (.inr rfl) rfl rfl (λx=>absurd x akn) iP) (.inl m1) ?_ ?_
  ·have e0:t++Te ic gi.frame.fn gi.frame.place #[]=t:=(by simp[Te]);have hr:Rest p.Wg t K ic st:=h.out.2.2.1;rw[hs]at hr;refine hr.app (λidx a ha hx=> .inr (hx.app (by obtain⟨op,au,_⟩:=UU ha;exact TH au) λm _ _ hj=> .inl ?_)) (λidx a _ ⟨op,au,_⟩ _=>by simp[Te]at au);by_cases cY:m=ic
   ·subst cY;rw[hK]at hj;cases hj
   ·rw[a_ _ _ cY];exact hj
  ·by_cases hn:n=0
   ·refine .inr ⟨funext λj=> ?_,?_⟩
    ·by_cases hj:j=ic
     ·subst hj;simp only[bw,hK,hn]
     ·simp only[a_ _ _ hj]
    ·simp only[flag];rw[S9 (by simpa using iP),aM];simp[bL]
   ·exact yb iP (by rw[hK];exact .inr ⟨rfl,.inr ⟨rfl,by simp only[GS.dc];omega⟩⟩)
 ·refine h.yS aI (k':=.last n') (a:=oJ p.Wg) hs aM (R9 w hW) hd (.inr (.inr (.inr rfl))) (.inr rfl) (.inr ⟨_,rfl⟩) dN rfl (by rw[hK];rfl) rfl (by rw[hK];rfl) m1 ?_ (by rw[hK];exact .inl (by simp[GS.dc]));unfold Mode;have e1:sumTo gs.size (λi=>(upd K ic (.last n') i).cnt)=0:=by rw[lA K (.last n') GS.cnt (by rw[hK];rfl)];exact m5
  have e2:sumTo gs.size (λi=>(upd K ic (.last n') i).late)=0:=by rw[lA K (.last n') GS.late (by rw[hK];rfl)];exact m4
  simp only[e1,e2,bw];obtain⟨n,hn⟩:=m1;exact .inr (.inr (.inr (.inr (.inl ⟨⟨n,by rw[vY _ _ _ (Ne.symm rk)];exact hn⟩,m2,trivial,trivial,hW.acd 0,.inl rfl⟩))))
theorem Inv.apw(h:Inv P n0 W0 V gs w t K Im ic (some p) st)(aI:p.recv=true){n:Nat}{gi:SH}(aM:gs[ic]?=some gi)(hK:K ic=.said n)(jE:Du P Im p.c p.Wg (US t ic) gi):gD P n0 W0 V gs w sl t K Im ic (some p) st ic:=by
 obtain⟨s,hs,gw,iP,hm⟩:=h.mode aI;obtain⟨m1,m2,m3,mk⟩:=hm.N7 (.inl (by rw[hK];rfl));obtain⟨hd,bL,g',aT,n',dN⟩:=jE;have nJ:∀e∈#[j7 (.write (oJ p.Wg))],e=j7 (.write (oJ p.Wg)):=λe he=>by simpa using he
 have R3:g'.status=.running:=cU.running (λd g x=>x.2.1) dN;refine h.tG aI (k':=.ik n') (s':=s) gw aM (aT w) (.inl (by rw[hd];exact dN)) (by rw[hK];exact Gb Im) (λ_=>rfl) rfl (λj hj=>by rw[hK]at hj;cases hj) (.inl rfl) (λe he x hx=> .inr (.inl ?_)) (λe he=> ?_) (λe he a=> ?_) rfl (λ_ _ _=>rfl) rfl rfl rfl
  (mk (.inr rfl) rfl rfl (λ_ g hg=> ?_) iP) (.inl m1) ?_ (yb iP (by rw[hK];exact .inl (by simp[GS.dc])))
 ·rw[nJ e he]at hx;cases hx;exact⟨rfl,rfl,rfl⟩
 ·rw[nJ e he];exact h.low.2
 ·rw[nJ e he];simp[j7,Ts]
 ·rcases getElem?_next iP hg with⟨_,rfl⟩|⟨aC,_⟩
  ·exact R3
  ·exact absurd rfl aC
 ·have hr:Rest p.Wg t K ic st:=h.out.2.2.1;rw[hs,m2]at hr;rw[m2];refine hr.app (λidx a ha hx=> .inr (hx.app (by obtain⟨op,au,_⟩:=UU ha;exact TH au) λm _ _ hj=> .inl ?_)) (λidx a _ ⟨op,au,xC,_⟩ _=> .inr (.inr ⟨ic,?_,gw,.inr (.inl rfl)⟩))
  ·by_cases cY:m=ic
   ·subst cY;rw[hK]at hj;cases hj
   ·rw[a_ _ _ cY];exact hj
  ·obtain⟨e,_,rfl⟩:=TK au;simp[WA,xC]
theorem Oo{t:Ui}{g i j:Nat}(hi:t.g? i=some g)(hj:t.g? j=some g)(h:i<=j):Before t i j:=by
 rcases Nat.eq_or_lt_of_le h with rfl|h
 ·exact .inl rfl
 ·obtain⟨a,ha,rfl⟩:=Tp.1 hi;obtain⟨b,hb,hg⟩:=Tp.1 hj;exact .inr (.single (.inl ⟨h,by simp[WA,ha,hb,hg]⟩))
theorem Inv.aem(h:Inv P n0 W0 V gs w t K Im ic (some p) st)(aI:p.recv=true){n:Nat}{gi:SH}(aM:gs[ic]?=some gi)(hK:K ic=.acq n)(jE:tN P Im p.c p.Wg (US t ic) gi):gD P n0 W0 V gs w sl t K Im ic (some p) st ic:=by
 obtain⟨s,hs,gw,iP,hm⟩:=h.mode aI;obtain⟨m1,m2,m3,m4,m5⟩:=hm.N5 (.inr (by rw[hK];rfl));obtain⟨hd,bL,g',aT,n',dN⟩:=jE;have nJ:∀e∈#[j7 (.acquire (ec p.Wg))],e=j7 (.acquire (ec p.Wg)):=λe he=>by simpa using he
 have R3:g'.status=.running:=cU.running (λd g x=>x.2.1) dN;refine h.tG aI (k':=.look n') (s':=.got) gw aM (aT w) (by rw[hd];exact dN) (by rw[hK];exact Gb Im) (λ_=>rfl) rfl (λj hj=>by rw[hK]at hj;cases hj) (.inl rfl) (λe he x hx=> ?_) (λe he=> ?_) (λe he a=> ?_) rfl (λ_ _ _=>rfl) rfl rfl rfl
  ?_ (.inl m1) ?_ (yb iP (by rw[hK];exact .inl (by simp[GS.dc])))
 ·rw[nJ e he]at hx;cases hx
 ·rw[nJ e he];exact h.low.2
 ·rw[nJ e he];simp[j7,Ts]
 ·unfold Mode;have e1:sumTo gs.size (λi=>(upd K ic (.look n') i).cnt)=0:=by rw[lA K (.look n') GS.cnt (by rw[hK];rfl)];exact m4
  have e2:sumTo gs.size (λi=>(upd K ic (.look n') i).late)=0:=by rw[lA K (.look n') GS.late (by rw[hK];rfl)];exact m3
  simp only[e1,e2,bw];exact .inr (.inr (.inr (.inr (.inr (.inl ⟨m1,trivial,trivial,trivial,.inl rfl⟩)))))
 ·have hr:Rest p.Wg t K ic st:=h.out.2.2.1;rw[hs,m2]at hr;rw[ofEvents_one];refine hr.app (λidx a ha hx=> .inr ?_) (λidx a _ ⟨op,au,_,hx⟩ _=> ?_)
  ·obtain⟨i,J',eY,hx⟩:=hx;have akm:=h.core.ti.norel;have own:t.g? idx=some ic->Wn (t++#[{g:=ic,fn:=gi.frame.fn,pos:=gi.frame.place,act:=.ofEvent (j7 (.acquire (ec p.Wg)))}]) ic idx:=λe=>by
    obtain⟨op,ho,pk⟩:=Tp.1 e;rw[<- pk];exact(Zb ho).app _
   rcases hx with hx|rfl|⟨r,rG,hle⟩
   ·exfalso;have aj7:i<gs.size:=by
     obtain⟨op,ho,pk⟩:=Tp.1 J';rw[<- pk];exact h.core.ti.gs op (XW ho)
    have gR:(K i).cnt=1:=by cases lc:K i<;>rw[lc]at hx<;>first|rfl|cases hx
    have hle:(K i).cnt<=sumTo gs.size λi=>(K i).cnt:=WC (f:=λi=>(K i).cnt) aj7;omega
   ·exact own J'
   ·exact aen rG.act rG.heard akm ⟨rfl,rfl⟩ hd (Oo J' rG.g hle)
  ·simp only[TJ,SL,S4,or_false]at au;subst au;cases hx
theorem Rest.got{Wg:Nat}(hr:Rest Wg t K ic (some .got)){es:Array Uq}{fn:TN}{pos:String}{K':Nat->GS}:Rest Wg (t++Te ic fn pos es) K' ic (some .got):=by
 refine hr.app (λidx a ha hx=> .inr (Knows.app _ hx)) (λidx a _ ⟨op,au,db,_⟩ _=> .inr (.inr ?_));obtain⟨e,_,rfl⟩:=TK au;exact Zb db
theorem Inv.amy(h:Inv P n0 W0 V gs w t K Im ic (some p) st)(aI:p.recv=true){n:Nat}{gi:SH}(aM:gs[ic]?=some gi)(hK:K ic=.look n)(jE:HI P Im p.c (US t ic) gi):gD P n0 W0 V gs w sl t K Im ic (some p) st ic:=by
 obtain⟨s,hs,gw,iP,hm⟩:=h.mode aI;obtain⟨m1,m2,m3,m4⟩:=hm.N6 (.inl (by rw[hK];rfl));obtain⟨hd,bL,b,o,x,g',lM,aT,n',dN⟩:=jE;have fB:Sat ((K ic).view Im) w:=by have:=h.core.sat ic iP;rwa [show bD V Im K ic=(K ic).view Im by simp[bD];omega]at this
 have JO:=fB.ab b o x (by rw[hK];exact lM);have hb:=fB.CA (show ((K ic).view Im).ab b o=some x by rw[hK];exact lM);have nJ:∀e∈(#[⟨.cell ⟨b,o,none⟩,false,false⟩]:Array Uq),e=⟨.cell ⟨b,o,none⟩,false,false⟩:=λe he=>by simpa using he
 have bX:=h.blind gw;refine h.tG aI (k':=.close n') (s':=.got) gw aM (aT w JO) (by rw[hd];exact dN) (by rw[hK];exact ami Im) (λ_=>rfl) rfl (λj hj=>by rw[hK]at hj;cases hj) (.inl rfl) (λe he y hy=> .inr (.inr ?_)) (λe he=> ?_) (λe he a=> ?_) rfl (λ_ _ _=>rfl) rfl rfl rfl
  ?_ (.inl m1) ?_ (yb iP (by rw[hK];exact .inl (by simp[GS.dc])))
 ·rw[nJ e he]at hy;cases hy;refine⟨λdU=> ?_,.inr (by rw[hK];show Im b o≠none;rw[lM];simp),rfl⟩;have e1:b=p.Wg:=dU;have:=bX.2.2.2 o;rw[hK]at this;have e2:Im p.Wg o=none:=this;rw[<- e1,lM]at e2;cases e2
 ·rw[nJ e he];exact hb
 ·rw[nJ e he];simp[Ts]
 ·unfold Mode;have e1:sumTo gs.size (λi=>(upd K ic (.close n') i).cnt)=0:=by rw[lA K (.close n') GS.cnt (by rw[hK];rfl)];exact m4
  have e2:sumTo gs.size (λi=>(upd K ic (.close n') i).late)=0:=by rw[lA K (.close n') GS.late (by rw[hK];rfl)];exact m3
  simp only[e1,e2,bw];exact .inr (.inr (.inr (.inr (.inr (.inl ⟨m1,trivial,trivial,trivial,.inr rfl⟩)))))
 ·have hr:Rest p.Wg t K ic st:=h.out.2.2.1;rw[hs,m2]at hr;exact hr.got
theorem Inv.af3(h:Inv P n0 W0 V gs w t K Im ic (some p) st)(aI:p.recv=true){n:Nat}{gi:SH}(aM:gs[ic]?=some gi)(hK:K ic=.close n)(jE:HG P p.c (US t ic) gi):gD P n0 W0 V gs w sl t K Im ic (some p) st ic:=by
 obtain⟨s,hs,gw,iP,hm⟩:=h.mode aI;obtain⟨⟨nn,m1⟩,m2,m3,m4⟩:=hm.N6 (.inr (by rw[hK];rfl));obtain⟨hd,bL,Kw,g',aT,q,mi⟩:=jE;have lQ:=aT w nn m1;have fI:∀e∈(#[⟨.obj p.c,false,true⟩,⟨.obj p.c,true,true⟩]:Array Uq),e=⟨.obj p.c,false,true⟩\/e=⟨.obj p.c,true,true⟩:=λe he=>by simpa using he
 have Kz:∀j,0<j->j<gs.size->j≠ic->(K j).idx=none:=λj _ hj _=>by
  have hle:(K j).cnt<=sumTo gs.size λi=>(K i).cnt:=WC (f:=λi=>(K i).cnt) hj;exact GS.Sr (by omega)
 have Kd:g'.status=.running\/g'.status=.finished:=ZF mi;have rk:p.c≠p.Wg:=h.phase.2.2.1;have JP:=h.low.1;have eu:Te ic gi.frame.fn gi.frame.place #[⟨.obj p.c,false,true⟩,⟨.obj p.c,true,true⟩]=#[{g:=ic,fn:=gi.frame.fn,pos:=gi.frame.place,act:=.ofEvent ⟨.obj p.c,false,true⟩},{g:=ic,fn:=gi.frame.fn,pos:=gi.frame.place,act:=.close p.c}]:=by simp[Te,Ts]
 have g1:=q_ (t:=t) (show (#[({g:=ic,fn:=gi.frame.fn,pos:=gi.frame.place,act:=.ofEvent ⟨.obj p.c,false,true⟩}:Wd),{g:=ic,fn:=gi.frame.fn,pos:=gi.frame.place,act:=.close p.c}]:Ui)[1]?=some _ from rfl);have nM:∀op∈(#[({g:=ic,fn:=gi.frame.fn,pos:=gi.frame.place,act:=.ofEvent ⟨.obj p.c,false,true⟩}:Wd),{g:=ic,fn:=gi.frame.fn,pos:=gi.frame.place,act:=.close p.c}]:Ui),still op.act:=by
  intro op au;simp only[TJ,SL,S4,or_false]at au;rcases au with rfl|rfl<;>exact⟨by simp[Ts],by simp[Ts]⟩
 have QM:∃n,({w with heap:=w.heap.setIfInBounds p.c (.chan 0 #[] true nn nn false)}:Tq).heap[p.c]?=some (.chan 0 #[] true n n false):=⟨nn,by simp[JP]⟩;refine h.tG aI (k':=.gone q) (s':=.shut (t.size+1)) gw aM lQ (by rw[hd];exact mi) (by rw[hK];exact Gc _) (λ_=>rfl) rfl (λj hj=>by rw[hK]at hj;cases hj) (.inl rfl) (λe he x hx=> .inl ?_) (λe he=> ?_) (λe he a=> ?_) (by simp) (λb hb _=>by simp[Wp,Ne.symm hb]) rfl rfl rfl
  ?_ (.inr ⟨Kz,λg hg=>anK gw hg Kw Kd QM⟩) ?_ (yb iP (by rw[hK];exact .inl (by simp[GS.dc])))
 ·rcases fI e he with rfl|rfl
  ·cases hx;exact⟨rfl,rfl⟩
  ·cases hx
 ·rcases fI e he with rfl|rfl
  ·exact JP
  ·exact JP
 ·rcases fI e he with rfl|rfl<;>simp[Ts]
 ·unfold Mode;have e1:sumTo gs.size (λi=>(upd K ic (.gone q) i).cnt)=0:=by rw[lA K (.gone q) GS.cnt (by rw[hK];rfl)];exact m4
  have e2:sumTo gs.size (λi=>(upd K ic (.gone q) i).late)=0:=by rw[lA K (.gone q) GS.late (by rw[hK];rfl)];exact m3
  simp only[e1,e2,bw];obtain⟨n,hn⟩:=QM;refine .inr (.inr (.inr (.inr (.inr (.inr ⟨⟨t.size+1,n,rfl,?_,?_,hn⟩,trivial,trivial,rfl⟩)))))
  ·rw[eu];exact ah_ g1
  ·rw[eu];exact heard_new (k:=1) rfl rfl (by rw[uc nM (by simp)];exact hd)
 ·have hr:Rest p.Wg t K ic st:=h.out.2.2.1;rw[hs,m2]at hr;rw[eu];refine hr.app (λidx a ha hx=> .inr (.inr (Knows.hb_new hx (by omega) g1 rfl))) (λidx a hi ⟨op,au,db,_⟩ _=> .inr (.inr ?_));have hlt:idx<t.size+2:=by have:=TH db;simpa using this
  have pk:op.g=ic:=by
   simp only[TJ,SL,S4,or_false]at au;rcases au with rfl|rfl<;>rfl
  exact Oo (g:=ic) (by simp[WA,db,pk]) (by simp[WA,g1]) (by omega)
structure DN (P:SK)(n0:Nat)(W0:Tq)(V:View)(gs:Array SH)(w:Tq)(sl:Option (Nat×Nat))(t:Ui)(Im:cC)(ic:Nat)(p:Phase)(st:Option eC)(g:SH)(i:Nat):Prop where
 intro::
 met:∃gs' w' ops K' j sp S v kU Ow,runT P (crowd gs w sl) i=(.next (crowd gs' w' sl),ops)/\gs'.size=gs.size/\kB gs' (T1 g (.tuple #[v,.bool true]))/\p.Ss[j]?=some (sp::S)/\sp v kU Ow/\(∀b,V.own b≠none->Ow b=none)/\(∀b o,V.own b≠none->kU b o≠none->V.ab b o≠none)/\
  (∃w,Sat V w/\(∀b o x,kU b o=some x->w.cell? ⟨b,o,none⟩=some x)/\∀b x,Ow b=some x->w.heap[b]?=some x)/\
  Inv P n0 W0 (nP V kU Ow (.recv p.c p.Wg (p.Ss.set j S))) gs' w' (t++ops) K' Im ic (some {p with Ss:=p.Ss.set j S}) st
theorem Inv.apQ(h:Inv P n0 W0 V gs w t K Im ic (some p) st)(aI:p.recv=true)(iL:V.deaf=0){g:SH}(hm:n5 gs g p.c){i j:Nat}{gi:SH}{hh h':Ht}{Vi V₁:View}{c Wg:Nat}{sp:Spec}{S:List Spec}{v z:SO}{B:Nat->Bool}(hi:0<i)(aM:gs[i]?=some gi)
  (hK:K i=.work j hh Vi) (hg:ee Vi V₁) (hr:V₁.role=.work c Wg (sp::S)) (hd:V₁.deaf=0) (aT:stepG P false gi w=.comm gi #[scase c v z] true .send w #[])
  (xR:sp v V₁.ab (lY B V₁)) (hk:lG P h' (lU B V₁ (.work c Wg S)) (T1 gi undef)):DN P n0 W0 V gs w sl t Im ic p st g i:=by
 have hlt:i<gs.size:=(SS.1 aM).1;have dn:=h.is i gi hi aM;simp only[hK,GS.is]at dn;obtain⟨bz,_,S',hS,ji⟩:=dn;rw[hg.role,ji]at hr;cases hr;have gR:(K i).cnt=1:=by rw[hK];rfl
 obtain⟨⟨n,gI⟩,lr⟩:=h.counted hi hlt gR;have eY:(i==0)=false:=by simp;omega
 obtain⟨g0,z0,h0,lg,iO,mP⟩:=hm;have hp:partners (gs.setIfInBounds i ph) p.c false=[(0,0)]:=by
  have EC:(gs.setIfInBounds i ph)[0]?=some (parked g0 #[rcase p.c z0] (.recv true)):=by rw[SR (by omega)];exact h0
  rw[partners_one EC (λm x hm hx=> ?_),offersAt_parked_recv]
  ·simp
  ·rcases Ya gs i m x hx with⟨_,rfl⟩|⟨_,jF⟩
   ·exact Zl _ _
   ·exact abd (h.is m x (by omega) jF) _
 have bL:=crowd_send_meets (P:=P) (sl:=sl) (i:=i) aM (by rw[eY];exact aT) gI (by omega) h0 hp;rw[Yx,ag']at bL;have mm:(K i).view Im=Vi:=by rw[hK];rfl
 have aU:((gs.setIfInBounds 0 (T1 g0 (recvd true v true))).setIfInBounds i (T1 gi undef)).size=gs.size:=by simp
 have aS:US t i=0:=by rw[bz,<- hg.deaf,hd]
 have Cn:Sat V₁ w:=by
  have:=h.core.sat i hlt;rw[show bD V Im K i=(K i).view Im by simp[bD];omega,mm]at this;exact hg.sat w this
 have KS:Sat V w:=by have:=h.core.sat 0 h.pos;rwa [show bD V Im K 0=V by simp[bD]]at this
 have ux:=h.met (gs':=(gs.setIfInBounds 0 (T1 g0 (recvd true v true))).setIfInBounds i (T1 gi undef)) (w':=w.setChan p.c 0 #[] false (n+1) (n+1) false) (gi:=gi) (h':=h') (V₁:=V₁) (S:=S) (sp:=sp) (B:=B) aI iL hi hlt (by rw[hK];rfl) (by rw[mm];exact hg) (by rw[hg.role,ji]) hd aS hS hk aU
  (by rw[S9 (by simpa using hlt)]) (λm hm iQ=>by rw[SR (Ne.symm hm),SR (by omega)])
  (u:=Te i gi.frame.fn gi.frame.place #[]++#[{g:=i,fn:=gi.frame.fn,pos:=gi.frame.place,act:=.send p.c n},{g:=0,fn:=g0.frame.fn,pos:=g0.frame.place,act:=.recv p.c n 0},
    {g:=i,fn:=gi.frame.fn,pos:=gi.frame.place,act:=.sendDone p.c n},{g:=0,fn:=g0.frame.fn,pos:=g0.frame.place,act:=.recvDone p.c n}]) (s:=n) (by simp only[Te,Y0,if_true,Xs];rfl) ⟨rfl,rfl⟩ ⟨rfl,rfl⟩ ⟨rfl,rfl⟩ ⟨rfl,rfl⟩
  (by simp[Wh]) (λb hb=>by simp[Wh,Wp,Ne.symm hb]) ⟨n+1,by simp[Wh,h.low.1]⟩ rfl rfl rfl
 refine⟨_,_,_,_,j,sp,S,v,V₁.ab,lY B V₁,bL,aU,⟨T1 g0 (recvd true v true),?_,rfl,?_,iO,mP⟩,hS,xR,ux.1,ux.2.1,⟨w,KS,Cn.ab,λb x e=> ?_⟩,ux.2.2⟩
 ·rw[SR (by omega),S9 h.pos]
 ·simp only[T1,lg];rfl
 ·unfold lY at e;split at e
  ·exact Cn.own b x e
  ·cases e
theorem Inv.aoX(h:Inv P n0 W0 V gs w t K Im ic (some p) st)(aI:p.recv=true)(iL:V.deaf=0){g:SH}{z:SO}(hm:kB gs g)(aT:stepG P true g w=.comm g #[rcase p.c z] true (.recv true) w #[])
  (hw:∃i j h' V₁ V₂ g1 v z1,0<i/\i<gs.size/\K i=.nU j h' V₁ V₂ g1 v z1):DN P n0 W0 V gs w sl t Im ic p st g 0:=by
 obtain⟨g0,h0,hf0,lg,iO,mP⟩:=hm;have lr:stepG P (0==0) g0 w=.comm g #[rcase p.c z] true (.recv true) w #[]:=by rw[<- aT];exact Xf lg iO mP w
 obtain⟨i0,j0,a0,a1,a2,a3,a4,a5,b0,b1,b2⟩:=hw;have ajB:(K i0).cnt=1:=by rw[b2];rfl
 obtain⟨⟨n,gI⟩,FJ⟩:=h.counted b0 b1 ajB;have th:gs[i0]?=some gs[i0]:=SJ b1;have dX:∀j k,(j,k)∈partners (gs.setIfInBounds 0 ph) p.c true->k=0/\j≠0/\∃gj vj zj MY,gs[j]?=some (parked gj #[scase p.c vj zj] MY):=by
  intro j k hjk;obtain⟨x,hx,hk⟩:=mem_partners.1 hjk;rcases Ya gs 0 j x hx with⟨_,rfl⟩|⟨hj0,jF⟩
  ·rw[Zl]at hk;cases hk
  ·rcases GS.runs (h.is j x (by omega) jF)with hr|⟨hf,_⟩|⟨q,h',V1,V2,g1,v,z1,e⟩|⟨_,hb,ho⟩
   ·rw[UV (by rw[hr];simp)]at hk;cases hk
   ·rw[UV (by rw[hf];simp)]at hk;cases hk
   ·have:=h.is j x (by omega) jF;simp only[e,GS.is]at this;obtain⟨_,_,rfl,_⟩:=this;rw[ZE]at hk;simp at hk;exact⟨hk,hj0,g1,v,z1,.send,jF⟩
   ·have:offersAt x p.c true=[]:=(by unfold offersAt;simp[hb,ho]);rw[this]at hk;cases hk
 have aC:partners (gs.setIfInBounds 0 ph) p.c true≠[]:=by
  intro e;have fI:(i0,0)∈partners (gs.setIfInBounds 0 ph) p.c true:=by
   have:=h.is i0 _ b0 th;simp only[b2,GS.is]at this;obtain⟨_,_,jh,_⟩:=this;refine mem_partners.2 ⟨gs[i0],by rw[SR (by omega)];exact th,?_⟩;rw[jh,ZE];simp
  rw[e]at fI;cases fI
 obtain⟨i,gj,vj,zj,MY,d,eY,aM,bL⟩:=crowd_recv_meets_some (P:=P) (sl:=sl) h0 lr gI aC dX;have hi:0<i:=by omega
 have hlt:i<gs.size:=(SS.1 aM).1;obtain⟨j,h',V₁,V₂,g1,v,z1,hK⟩:∃j h' V₁ V₂ g1 v z1,K i=.nU j h' V₁ V₂ g1 v z1:=by
  rcases GS.runs (h.is i _ hi aM)with hr|⟨hf,_⟩|x|⟨_,_,ho⟩
  ·cases hr
  ·cases hf
  ·exact x
  ·cases ho
 have dn:=h.is i _ hi aM;simp only[hK,GS.is]at dn;obtain⟨bz,hd,jh,hk,sp,S,B,hS,ji,xR,ze⟩:=dn;have efr:gj.frame=g1.frame/\gj.callers=g1.callers/\gj.dying=g1.dying/\vj=v/\zj=z1/\MY=.send:=by
  simp only[parked,ag_,Tm,U0]at jh;obtain⟨e1,e2,_,e3,e4,e5⟩:=jh;simp[scase]at e4;exact⟨e1,e2,e3,e4.1,e4.2,e5⟩
 obtain⟨e1,e2,e3,rfl,rfl,rfl⟩:=efr;have esv:T1 gj undef=T1 g1 undef:=by simp[T1,e1,e2,e3]
 rw[ag',Yx,esv]at bL;subst ze;have mm:(K i).view Im=V₁:=by rw[hK];rfl
 have aU:((gs.setIfInBounds i (T1 g1 undef)).setIfInBounds 0 (T1 g (recvd true vj true))).size=gs.size:=by simp
 have Cn:Sat V₁ w:=by
  have:=h.core.sat i hlt;rwa [show bD V Im K i=(K i).view Im by simp[bD];omega,mm]at this
 have KS:Sat V w:=by have:=h.core.sat 0 h.pos;rwa [show bD V Im K 0=V by simp[bD]]at this
 have ux:=h.met (gs':=(gs.setIfInBounds i (T1 g1 undef)).setIfInBounds 0 (T1 g (recvd true vj true))) (w':=(w.at d).setChan p.c 0 #[] false (n+1) (n+1) false) (gi:=g1) (h':=h') (V₁:=V₁) (S:=S) (sp:=sp) (B:=B) aI iL hi hlt (by rw[hK];rfl) (by rw[mm];exact ee.refl _) ji hd bz hS hk aU
  (by rw[SR (by omega),S9 hlt]) (λm hm iQ=>by rw[SR (by omega),SR (Ne.symm hm)])
  (u:=Te 0 g0.frame.fn g0.frame.place #[]++#[{g:=i,fn:=gj.frame.fn,pos:=gj.frame.place,act:=.send p.c n},{g:=0,fn:=g.frame.fn,pos:=g.frame.place,act:=.recv p.c n 0},
    {g:=i,fn:=gj.frame.fn,pos:=gj.frame.place,act:=.sendDone p.c n},{g:=0,fn:=g.frame.fn,pos:=g.frame.place,act:=.recvDone p.c n}]) (s:=n) (by simp only[Te,Y0,if_true,Xs];rfl) ⟨rfl,rfl⟩ ⟨rfl,rfl⟩ ⟨rfl,rfl⟩ ⟨rfl,rfl⟩
  (by simp[Wh,World.at]) (λb hb=>by simp[Wh,World.at,Wp,Ne.symm hb]) ⟨n+1,by simp[Wh,World.at,h.low.1]⟩ rfl rfl rfl
 refine⟨_,_,_,_,j,sp,S,vj,V₁.ab,lY B V₁,bL,aU,⟨T1 g (recvd true vj true),?_,rfl,rfl,rfl,rfl⟩,hS,xR,ux.1,ux.2.1,⟨w,KS,Cn.ab,λb x e=> ?_⟩,ux.2.2⟩
 ·rw[S9 (by simpa using h.pos)]
 ·unfold lY at e;split at e
  ·exact Cn.own b x e
  ·cases e
end
section
variable {P:SK}{n0:Nat}{W0:Tq}{V:View}{gs gs':Array SH}{w w':Tq}{sl:Option (Nat×Nat)}{t:Ui}{K:Nat->GS}{Im:cC}{ic:Nat}{ph:Option Phase}{p:Phase}{st st':Option eC}
theorem Inv.tH(h:Inv P n0 W0 V gs w t K Im ic (some p) st){i n:Nat}{gi:SH}{Stop:Nat->SH->Prop}{mk:Nat->GS}(hi:0<i)(aM:gs[i]?=some gi)(hK:K i=mk n)(dN:cU P Stop n (US t i) gi)
  (rA:∀n d g,cU P Stop n d g->(mk n).is P p.c p.Wg Im p.Ss d g) (dU:∀n m,(mk n).shape=(mk m).shape) (K5:∀n m,(mk n).view Im=(mk m).view Im) (KQ:∀n,qP (mk n).dc (mk (n+1)).dc) (zF:∀d g,Stop d g->g.status=.running)
  (hgo:Stop (US t i) gi->gD P n0 W0 V gs w sl t K Im ic (some p) st i):gD P n0 W0 V gs w sl t K Im ic (some p) st i:=by
 cases n with
 |zero=>exact hgo dN
 |succ n=>
  rcases dN with hs|⟨hr,g',es,hm,aT,hs⟩
  ·exact hgo hs
  ·exact h.slip (k':=mk n) hi aM (aT w) hm (rA _ _ _ hs) (λx=>by rw[cU.running zF hs]at x;cases x) (by rw[hK];exact dU _ _) (by rw[hK];exact K5 _ _) (λ_=>cU.running zF hs) (by rw[hK];exact KQ n)
theorem Inv.ack(h:Inv P n0 W0 V gs w t K Im ic (some p) st){i n:Nat}{gi:SH}{Stop:Nat->SH->Prop}{mk:Nat->GS}(hi:0<i)(aM:gs[i]?=some gi)(hK:K i=mk n)(hW:∃x y,WgAt P p.Wg w x y)(dN:ii P p.Wg Stop n (US t i) gi)
  (rA:∀n d g,ii P p.Wg Stop n d g->(mk n).is P p.c p.Wg Im p.Ss d g) (dU:∀n m,(mk n).shape=(mk m).shape) (K5:∀n m,(mk n).view Im=(mk m).view Im) (KQ:∀n,qP (mk n).dc (mk (n+1)).dc) (zF:∀d g,Stop d g->g.status=.running)
  (hgo:Stop (US t i) gi->gD P n0 W0 V gs w sl t K Im ic (some p) st i):gD P n0 W0 V gs w sl t K Im ic (some p) st i:=by
 cases n with
 |zero=>exact hgo dN
 |succ n=>
  rcases dN with hs|⟨hr,g',es,hm,aT,hs⟩
  ·exact hgo hs
  ·exact h.slip (k':=mk n) hi aM (aT w _ _ hW.choose_spec.choose_spec) hm (rA _ _ _ hs) (λx=>by rw[ii.running zF hs]at x;cases x) (by rw[hK];exact dU _ _) (by rw[hK];exact K5 _ _) (λ_=>ii.running zF hs) (by rw[hK];exact KQ n)
theorem Inv.other(h:Inv P n0 W0 V gs w t K Im ic ph st){g:SH}(pi:kB gs g\/∃p,ph=some p/\p.recv=true/\V.deaf=0/\n5 gs g p.c){i:Nat}{gi:SH}(hi:0<i)(aM:gs[i]?=some gi)(bL:gi.status=.running):
  gD P n0 W0 V gs w sl t K Im ic ph st i\/∃p,ph=some p/\DN P n0 W0 V gs w sl t Im ic p st g i/\n5 gs g p.c:=by
 have hlt:i<gs.size:=(SS.1 aM).1;have dn:=h.out.1 i gi hi aM;have gone:∀q,K i=.gone q->Y5 P q (US t i) gi->gD P n0 W0 V gs w sl t K Im ic ph st i:=by
  intro q hK hq;cases q with
  |zero=>rw[hq.1]at bL;cases bL
  |succ q=>
   rcases hq with⟨hf,_⟩|⟨_,g',es,hm,aT,s_⟩
   ·rw[hf]at bL;cases bL
   ·refine h.slip (k':=.gone q) hi aM (aT w) hm ?_ (λx=>by rcases s_.status with e|e<;>rw[e]at x<;>cases x) (by rw[hK];rfl) (by rw[hK];rfl) (λx=>by rw[hK]at x;rcases x with x|x<;>cases x) (by rw[hK];exact .inr ⟨rfl,.inr ⟨rfl,Um _⟩⟩);cases ph with
    |none=>exact⟨q,rfl,s_⟩
    |some p=>exact s_
 cases ph with
 |none=>
  obtain⟨q,hK,hq⟩:=dn;exact .inl (gone q hK hq)
 |some p=>
  have fg:(K i).is P p.c p.Wg Im p.Ss (US t i) gi:=dn;have qk:(K i).idx=none->(∀q,K i≠ .gone q)->p.recv=true:=λh1 h2=>by
   cases aI:p.recv with
   |true=>rfl
   |false=>
    have hx:=h.phase.2.2.2.2.2.2.2.2.2;rw[if_neg (by rw[aI];simp)]at hx;rcases hx.2.2.2.1 i hi hlt with x|⟨q,x⟩
    ·rw[h1]at x;cases x
    ·exact absurd x (h2 q)
  cases hK:K i with
  |gone q=>rw[hK]at fg;exact .inl (gone q hK fg)
  |nU j h' V1 V2 g0 v z=>
   rw[hK]at fg;obtain⟨_,_,rfl,_⟩:=fg;cases bL
  |work j hh Vi=>
   rw[hK]at fg;obtain⟨hd,K7,S,hS,ji⟩:=fg;have mm:bD V Im K i=Vi:=(by simp[bD,hK,GS.view];omega);have fB:Sat Vi w:=(by have:=h.core.sat i hlt;rwa [mm]at this);cases K7 with
   |step G' W' E' V' hs hg h1 h2 h3=>
    exact .inl (h.adi hi aM hK (h1 w (hg.sat w fB)) (dj.rS hg (h2 w (hg.sat w fB))) (h3 w (hg.sat w fB)) (.mk _ w))
   |send c Wg sp S1 v z B hs hg hr de ho h1 h2 h3=>
    have er:m_.work p.c p.Wg S=.work c Wg (sp::S1):=(by rw[<- ji,<- hg.role,hr]);cases er;rcases pi with hm|⟨p',zA,aI,iL,hm⟩
    ·exact .inl (h.arM hm hi aM hK hg hr de (h1 w (hg.sat w fB)) h2 h3)
    ·cases zA;exact .inr ⟨p,rfl,h.apQ aI iL hm hi aM hK hg hr de (h1 w (hg.sat w fB)) h2 h3,hm⟩
   |done c Wg hg hr de h1=>
    have er:m_.work p.c p.Wg S=.work c Wg []:=(by rw[<- ji,<- hg.role,hr]);cases er;refine .inl (h.release ?_ hi aM hK hg hr de h1);cases aI:p.recv with
    |true=>rfl
    |false=>
     have hx:=h.phase.2.2.2.2.2.2.2.2.2;rw[if_neg (by rw[aI];simp)]at hx;exact absurd rfl (hx.2.2.2.2.1 [] (Tf hS))
   |slip c Wg hs hg hr h1 h3=>
    have er:m_.work p.c p.Wg S=.work c Wg []:=(by rw[<- ji,<- hg.role,hr]);cases er;have aI:p.recv=true:=by
     cases aI:p.recv with
     |true=>rfl
     |false=>
      have hx:=h.phase.2.2.2.2.2.2.2.2.2;rw[if_neg (by rw[aI];simp)]at hx;exact absurd rfl (hx.2.2.2.2.1 [] (Tf hS))
    obtain⟨s,hW⟩:=h.af9 aI hlt (by rw[hK];rfl);exact .inl (h.adi hi aM hK (h1 w s (hg.sat w fB) hW) (dj.rS hg (dj.idle (hg.sat w fB))) h3 (AE.mk (λ_=>_) w))
  |add n=>
   rw[hK]at fg;have aI:=qk (by rw[hK];rfl) (λq=>by rw[hK];simp);exact .inl (h.tH (mk:=.add) hi aM hK fg (λ_ _ _ x=>x) (λ_ _=>rfl) (λ_ _=>rfl) (λn=> .inr ⟨rfl,.inr ⟨rfl,Um _⟩⟩) (λ_ _ x=>x.2.1) (λhs=>h.aeq aI hi aM hK hs))
  |load n=>
   rw[hK]at fg;have aI:=qk (by rw[hK];rfl) (λq=>by rw[hK];simp);exact .inl (h.tH (mk:=.load) hi aM hK fg (λ_ _ _ x=>x) (λ_ _=>rfl) (λ_ _=>rfl) (λn=> .inr ⟨rfl,.inr ⟨rfl,Um _⟩⟩) (λ_ _ x=>x.2.1) (λhs=>h.amx aI hi aM hK hs))
  |store n=>
   rw[hK]at fg;have aI:=qk (by rw[hK];rfl) (λq=>by rw[hK];simp);exact .inl (h.tH (mk:=.store) hi aM hK fg (λ_ _ _ x=>x) (λ_ _=>rfl) (λ_ _=>rfl) (λn=> .inr ⟨rfl,.inr ⟨rfl,Um _⟩⟩) (λ_ _ x=>x.2.1) (λhs=>h.aqB aI hi aM hK hs))
  |my n=>
   rw[hK]at fg;have aI:=qk (by rw[hK];rfl) (λq=>by rw[hK];simp);exact .inl (h.tH (mk:=.my) hi aM hK fg (λ_ _ _ x=>x) (λ_ _=>rfl) (λ_ _=>rfl) (λn=> .inr ⟨rfl,.inr ⟨rfl,Um _⟩⟩) (λ_ _ x=>x.2.1) (λhs=>h.apP aI hi aM hK hs))
  |head k n=>
   rw[hK]at fg;have aI:=qk (by rw[hK];rfl) (λq=>by rw[hK];simp);have fV:i=ic:=h.rZ hi (by rw[hK];rfl);exact .inl (h.tH (mk:=.head k) hi aM hK fg (λ_ _ _ x=>x) (λ_ _=>rfl) (λ_ _=>rfl) (λn=> .inr ⟨rfl,.inr ⟨rfl,Um _⟩⟩) (λ_ _ x=>QV x) (λhs=>by subst fV;exact h.ajX aI aM hK hs))
  |ma v n=>
   rw[hK]at fg;have aI:=qk (by rw[hK];rfl) (λq=>by rw[hK];simp);have fV:i=ic:=h.rZ hi (by rw[hK];rfl);exact .inl (h.tH (mk:=.ma v) hi aM hK fg (λ_ _ _ x=>x) (λ_ _=>rfl) (λ_ _=>rfl) (λn=> .inr ⟨rfl,.inr ⟨rfl,Um _⟩⟩) (λ_ _ x=>x.2.1) (λhs=>by subst fV;exact h.afY aI aM hK hs))
  |said n=>
   rw[hK]at fg;have aI:=qk (by rw[hK];rfl) (λq=>by rw[hK];simp);have fV:i=ic:=h.rZ hi (by rw[hK];rfl);exact .inl (h.ack (mk:=.said) hi aM hK (h.NW aI (n:=n) (.inr (by rw[<- fV];exact hK))) fg (λ_ _ _ x=>x) (λ_ _=>rfl) (λ_ _=>rfl) (λn=> .inr ⟨rfl,.inr ⟨rfl,Um _⟩⟩) (λ_ _ x=>x.2.1) (λhs=>by subst fV;exact h.apw aI aM hK hs))
  |ik n=>
   rw[hK]at fg;have aI:=qk (by rw[hK];rfl) (λq=>by rw[hK];simp);have fV:i=ic:=h.rZ hi (by rw[hK];rfl);rcases fg with fg|⟨_,g1,rfl,_⟩
   ·exact .inl (h.tH (mk:=.ik) hi aM hK fg (λ_ _ _ x=> .inl x) (λ_ _=>rfl) (λ_ _=>rfl) (λn=> .inr ⟨rfl,.inr ⟨rfl,Um _⟩⟩) (λ_ _ x=>x.2.1) (λhs=>by subst fV;exact h.aga aI aM hK hs))
   ·cases bL
  |last n=>
   rw[hK]at fg;have aI:=qk (by rw[hK];rfl) (λq=>by rw[hK];simp);have fV:i=ic:=h.rZ hi (by rw[hK];rfl);exact .inl (h.tH (mk:=.last) hi aM hK fg (λ_ _ _ x=>x) (λ_ _=>rfl) (λ_ _=>rfl) (λn=> .inr ⟨rfl,.inr ⟨rfl,Um _⟩⟩) (λ_ _ x=>x.2.1) (λhs=>by subst fV;exact h.alQ aI aM hK hs))
  |acq n=>
   rw[hK]at fg;have aI:=qk (by rw[hK];rfl) (λq=>by rw[hK];simp);have fV:i=ic:=h.rZ hi (by rw[hK];rfl);exact .inl (h.ack (mk:=.acq) hi aM hK (h.NW aI (n:=n) (.inl (by rw[<- fV];exact hK))) fg (λ_ _ _ x=>x) (λ_ _=>rfl) (λ_ _=>rfl) (λn=> .inr ⟨rfl,.inr ⟨rfl,Um _⟩⟩) (λ_ _ x=>x.2.1) (λhs=>by subst fV;exact h.aem aI aM hK hs))
  |look n=>
   rw[hK]at fg;have aI:=qk (by rw[hK];rfl) (λq=>by rw[hK];simp);have fV:i=ic:=h.rZ hi (by rw[hK];rfl);exact .inl (h.tH (mk:=.look) hi aM hK fg (λ_ _ _ x=>x) (λ_ _=>rfl) (λ_ _=>rfl) (λn=> .inr ⟨rfl,.inr ⟨rfl,Um _⟩⟩) (λ_ _ x=>x.2.1) (λhs=>by subst fV;exact h.amy aI aM hK hs))
  |close n=>
   rw[hK]at fg;have aI:=qk (by rw[hK];rfl) (λq=>by rw[hK];simp);have fV:i=ic:=h.rZ hi (by rw[hK];rfl);exact .inl (h.tH (mk:=.close) hi aM hK fg (λ_ _ _ x=>x) (λ_ _=>rfl) (λ_ _=>rfl) (λn=> .inr ⟨rfl,.inr ⟨rfl,Um _⟩⟩) (λ_ _ x=>x.2.1) (λhs=>by subst fV;exact h.af3 aI aM hK hs))
theorem Inv.awake(h:Inv P n0 W0 V gs w t K Im ic ph st){g:SH}(pi:kB gs g\/∃p,ph=some p/\p.recv=true/\V.deaf=0/\n5 gs g p.c):∀x∈gs,awake x:=by
 intro x hx;obtain⟨i,hi⟩:=V_.1 hx;rcases UZ i with rfl|eY
 ·rcases pi with⟨g0,h0,h1,_⟩|⟨p,_,_,_,g0,z,h0,_⟩
  ·rw[hi]at h0;cases h0;intro s;rw[h1];simp
  ·rw[hi]at h0;cases h0;intro s;simp[parked]
 ·have dn:=h.out.1 i x eY hi;intro s;cases ph with
  |none=>
   obtain⟨q,_,hq⟩:=dn;rcases hq.status with e|e<;>rw[e]<;>simp
  |some p=>
   rcases GS.runs (show (K i).is P p.c p.Wg Im p.Ss (US t i) x from dn)with e|⟨e,_⟩|⟨j,h',V1,V2,g1,v,z,e⟩|⟨_,e,_⟩
   ·rw[e];simp
   ·rw[e];simp
   ·have fg:(K i).is P p.c p.Wg Im p.Ss (US t i) x:=dn;rw[e]at fg;obtain⟨_,_,rfl,_⟩:=fg;simp[parked]
   ·rw[e];simp
end
def Ok (P:SK)(Post:SO->Tq->Prop)(m:ar')(t:Ui):Prop:=
 ∃M last o w' t',runNT P (M+1) m t=(.ended o w',t')/\runN P M m=.next last/\step P last=.ended o w'/\W1 P Post last o w' t'
section
variable {P:SK}{Post:SO->Tq->Prop}
theorem Ok.step{m m':ar'}{t:Ui}{ops:Array Wd}(hs:stepT P m=(.next m',ops))(h:Ok P Post m' (t++ops)):Ok P Post m t:=by
 obtain⟨M,last,o,w',t',h1,h2,h3,h4⟩:=h;refine⟨M+1,last,o,w',t',?_,?_,h3,h4⟩
 ·rw[runNT,hs];exact h1
 ·have:af_ P m=.next m':=by unfold af_;rw[hs]
  rw[runN,this];exact h2
theorem Ok.end{m:ar'}{t:Ui}{o:Outcome}{w':Tq}{ops:Array Wd}(hs:stepT P m=(.ended o w',ops))(h:W1 P Post m o w' (t++ops)):Ok P Post m t:=by
 refine⟨0,m,o,w',t++ops,?_,rfl,?_,h⟩
 ·simp[runNT,hs]
 ·unfold af_;rw[hs]
end
section
variable {P:SK}{n0:Nat}{W0:Tq}{V:View}{gs gs':Array SH}{w w':Tq}{sl:Option (Nat×Nat)}{t:Ui}{K:Nat->GS}{Im:cC}{ic:Nat}{ph:Option Phase}{p:Phase}{st st':Option eC}
theorem Inv.draw(h:Inv P n0 W0 V gs w t K Im ic ph st)(d:Nat):Inv P n0 W0 V gs (w.at d) t K Im ic ph st:=
 let⟨a,b,c,e⟩:=h.out
 Inv.mk' h.pos h.k0 h.d0 a (b.draw d) c (by cases ph<;>exact e)
theorem M7{f:Nat->Nat}:∀{N:Nat},0<sumTo N f->∃i,i<N/\0<f i
 |0,h=>by simp[sumTo]at h
 |N+1,h=>by
  by_cases hN:0<f N
  ·exact⟨N,by omega,hN⟩
  ·obtain⟨i,hi,hf⟩:=M7 (N:=N) (f:=f) (by rw[sumTo]at h;omega);exact⟨i,by omega,hf⟩
theorem Inv.ap1(h:Inv P n0 W0 V gs w t K Im ic (some p) st)(aI:p.recv=true)(ho:yD w p.c)(sR:Calm gs):∃i gi,0<i/\gs[i]?=some gi/\gi.status=.running:=by
 obtain⟨s,hs,gw,iP,hm⟩:=h.mode aI;have h0:=h.k0;have Bv:gs[ic]?=some gs[ic]:=SJ iP;have asX:(K ic).is P p.c p.Wg Im p.Ss (US t ic) gs[ic]:=h.is ic _ gw Bv;have run:∀i x,0<i->gs[i]?=some x->(∀q,K i≠ .gone q)->(∀n,K i≠ .ik n)->x.status=.running:=by
  intro i x hi hx h1 h2;rcases GS.runs (show (K i).is P p.c p.Wg Im p.Ss (US t i) x from h.is i x hi hx)with e|⟨_,q,e⟩|⟨j,h',V1,V2,g1,v,z,e⟩|⟨⟨n,e⟩,_⟩
  ·exact e
  ·exact absurd e (h1 q)
  ·have cG:=h.is i x hi hx;simp only[e,GS.is]at cG;obtain⟨_,_,jh,_⟩:=cG;have:=sR i x hi hx (by rw[jh];rfl);rw[jh]at this;cases this
  ·exact absurd e (h2 n)
 have Lh:(∀q,K ic≠ .gone q)->(∀n,K ic≠ .ik n)->∃i gi,0<i/\gs[i]?=some gi/\gi.status=.running:=λa b=>⟨ic,_,gw,Bv,run ic _ gw Bv a b⟩;have other:∀i,i<gs.size->(K i).cnt=1\/(K i).late=1->∃i gi,0<i/\gs[i]?=some gi/\gi.status=.running:=by
  intro i hi hc;have eY:0<i:=by
   rcases UZ i with rfl|x
   ·rw[h0]at hc;rcases hc with c|c<;>cases c
   ·exact x
  exact⟨i,_,eY,SJ hi,run i _ eY (SJ hi) (λq e=>by rw[e]at hc;rcases hc with c|c<;>cases c) (λq e=>by rw[e]at hc;rcases hc with c|c<;>cases c)⟩
 have one:∀i,0<(K i).cnt->(K i).cnt=1:=λi hi=>by cases e:K i<;>rw[e]at hi<;>first|rfl|exact absurd hi (by simp[GS.cnt])
 have ant:∀i,0<(K i).late->(K i).late=1:=λi hi=>by cases e:K i<;>rw[e]at hi<;>first|rfl|exact absurd hi (by simp[GS.late])
 unfold Mode at hm;rcases hm with m|m|m|m|m|m|m
 ·rcases m.2.2.2.2.2 with⟨k,e,_⟩|⟨v,e,_⟩<;>exact Lh (λq x=>by rw[x]at e;cases e) (λq x=>by rw[x]at e;cases e)
 ·obtain⟨i,hi,hc⟩:=M7 (N:=gs.size) (f:=λi=>(K i).cnt) (by have:=m.2.2.2.1;omega);exact other i hi (.inl (one i hc))
 ·obtain⟨i,hi,hc⟩:=M7 (N:=gs.size) (f:=λi=>(K i).late) (by have:=m.2.2.1;omega);exact other i hi (.inr (ant i hc))
 ·exact⟨ic,_,gw,Bv,m.2.2.2.2.2.1 _ Bv⟩
 ·rcases m.2.2.2.2.2 with e|e<;>exact Lh (λq x=>by rw[x]at e;cases e) (λq x=>by rw[x]at e;cases e)
 ·rcases m.2.2.2.2 with e|e<;>exact Lh (λq x=>by rw[x]at e;cases e) (λq x=>by rw[x]at e;cases e)
 ·obtain⟨⟨_,n,_,_,_,aY⟩,_⟩:=m;obtain⟨n',ho⟩:=ho;rw[aY]at ho;simp at ho
theorem se(V':View)(Im:cC)(K:Nat->GS):bD V' Im K=upd (bD V Im K) 0 V':=by
 funext j;by_cases hj:j=0
 ·subst hj;rw[bw];simp[bD]
 ·rw[a_ _ _ hj];simp[bD,hj]
theorem kS:bD V Im K 0=V:=by simp[bD]
def vk (r:m_)(ph:Option Phase):Prop:=match r with
 |.plain=>ph=none
 |.fork c Wg Ss=>ph=some ⟨c,Wg,Ss,false⟩
 |.recv c Wg Ss=>ph=some ⟨c,Wg,Ss,true⟩
 |.work .. =>False
theorem Inv.amH(h:Inv P n0 W0 V gs w t K Im ic ph st){V':View}(g:ee V V')(hr:vk V.role ph):Inv P n0 W0 V' gs w t K Im ic ph st:=by
 obtain⟨dn,hc,mR,gJ⟩:=h.out;refine Inv.mk' h.pos h.k0 (by rw[g.deaf];exact h.d0) dn ?_ mR ?_
 ·rw[se (V:=V)];exact hc.ghost h.pos (by rw[kS];exact g)
 ·cases ph with
  |none=>exact gJ
  |some p=>
   obtain⟨a1,a2,a3,a4,a5,a6,a7,a8,a9,bW⟩:=gJ;refine⟨a1,a2,a3,a4,a5,a6,a7,a8,a9,?_⟩;split
   ·rename_i aI;rw[if_pos aI]at bW;have b:jr p V:=⟨bW.1.1,bW.1.2.1,bW.1.2.2.1,bW.1.2.2.2⟩;have b':=b.ghost g;exact⟨⟨b'.1,b'.2.1,b'.2.2.1,b'.2.2.2⟩,bW.2⟩
   ·rename_i aI;rw[if_neg aI]at bW;refine⟨g.chan _ _ ?_ bW.1,bW.2⟩;unfold vk at hr;split at hr
    ·cases hr
    ·cases hr;rename_i e;rw[e];rfl
    ·cases hr;exact absurd rfl aI
    ·exact hr.elim
theorem Inv.aaH(h:Inv P n0 W0 V gs w t K Im ic ph st){g0 g':SH}{es:Array Uq}{V':View}(h0:gs[0]?=some g0)(s:dj V w V' w' es)(hr:vk V.role ph):
  Inv P n0 W0 V' ((gs.map (woken P g0 g' w')).setIfInBounds 0 g') w' (t++Te 0 g0.frame.fn g0.frame.place es) K Im ic ph st:=by
 obtain⟨dn,hc,mR,gJ⟩:=h.out;have aU:((gs.map (woken P g0 g' w')).setIfInBounds 0 g').size=gs.size:=by simp
 have Co:∀op∈Te 0 g0.frame.fn g0.frame.place es,op.g=0:=λop au=>by obtain⟨e,_,rfl⟩:=TK au;rfl
 have jg:∀{u:Ui}{idx:Nat}{op:Wd},(t++u)[idx]?=some op->op.g=0->Wn (t++u) 0 idx:=λ{u idx op} a b=>by have:=Zb a;rwa [b]at this
 have QL:∀p,ph=some p->w'.heap[p.c]?=w.heap[p.c]?:=by
  rintro p rfl
  obtain⟨a1,a2,a3,a4,a5,a6,a7,a8,a9,bW⟩:=gJ;by_cases aI:p.recv=true
  ·rw[if_pos aI]at bW;exact s.frame _ a4 bW.1.1
  ·rw[if_neg aI]at bW;have dM:Sat V w:=(by have:=hc.sat 0 h.pos;rwa [kS]at this);have fe:V.role.chan=some p.c:=by
    unfold vk at hr;split at hr
    ·cases hr
    ·cases hr;rename_i e;rw[e];rfl
    ·cases hr;exact absurd rfl aI
    ·exact hr.elim
   rw[s.sat.own _ _ (s.chan _ _ fe bW.1),dM.own _ _ bW.1]
 refine Inv.mk' (by rw[aU];exact h.pos) h.k0 (by rw[Deaf_own,s.deaf,h.d0]) (λj x hj hx=> ?_) ?_ ?_ ?_
 ·rcases getElem?_next h.pos hx with⟨e,_⟩|⟨_,y,hy,rfl⟩
  ·omega
  ·rw[atA t (g:=j) (g':=0) (by omega) _ Co];have Cv:=dn j y hj hy;have Ko:j<gs.size:=(SS.1 hy).1;cases ph with
   |none=>
    obtain⟨q,hq,pt⟩:=Cv;exact⟨q,hq,by rw[woken_quitsD pt];exact pt⟩
   |some p=>
    refine Sz ?_ Cv;rcases h.opens rfl with⟨n,x⟩|x
    ·exact .inl ⟨n,by rw[QL p rfl];exact x⟩
    ·exact .inr (x.1 j hj Ko)
 ·rw[aU,se (V:=V)];refine hc.step h.pos (by rw[kS];exact s) (λe he x hx hs=> ?_) g0.frame.fn g0.frame.place;cases ph with
  |none=>exact hs.elim
  |some p=>
   obtain⟨a1,a2,a3,a4,a5,a6,a7,a8,a9,bW⟩:=gJ;have p9:=IS (s.fl e he) hx;by_cases aI:p.recv=true
   ·exfalso;rw[if_pos aI]at bW;have b:jr p V:=⟨bW.1.1,bW.1.2.1,bW.1.2.2.1,bW.1.2.2.2⟩;rcases p9.1 with y|⟨y,_⟩|y
    ·exact b.zX y.rd hs
    ·exact b.zX y hs
    ·exact y (ace a4 a5 hs)
   ·rw[if_neg aI]at bW;have ji:V.role.chan=some p.c/\V.role.group=some p.Wg:=by
     unfold vk at hr;split at hr
     ·cases hr
     ·cases hr;rename_i e;rw[e];exact⟨rfl,rfl⟩
     ·cases hr;exact absurd rfl aI
     ·exact hr.elim
    have j_:nd (some p) gs.size ic K 0:=by
     show iZ p gs.size ic K 0;unfold iZ;rw[if_neg aI];exact .inl rfl
    have Cf:x.kind≠ .plain:=by
     intro hk;cases hl:x.loc with
     |cell a=>rw[hl]at hs;exact p9.2.2 _ a ji.2 hl hs hk
     |obj r=>rw[hl]at hs;exact p9.2.1 _ ji.1 (by rw[hl];exact congrArg _ hs)
     |_=>rw[hl]at hs;exact hs.elim
    cases hk:x.kind with
    |plain=>exact absurd hk Cf
    |atomic=>exact .inl ⟨rfl,j_⟩
    |said=>exact .inr ⟨rfl,bW.2.1.symm,j_⟩
 ·have v_:∀idx a,t.size<=idx->(∃op∈Te 0 g0.frame.fn g0.frame.place es,(t++Te 0 g0.frame.fn g0.frame.place es)[idx]?=some op/\op.act.touch?=some a)->Wn (t++Te 0 g0.frame.fn g0.frame.place es) 0 idx:=λidx a _ ⟨op,au,hi,_⟩=>jg hi (Co op au);cases st with
  |none=>
   intro idx a ha hm;rcases Ar ha with gq|⟨hi,x⟩
   ·obtain⟨op,au,_⟩:=UU gq;rcases mR idx a gq hm with x|⟨x,y⟩|⟨_,z,_⟩
    ·exact .inl (x.app _)
    ·exact .inr (.inl ⟨x,λz=>y ((Wr (TH au)).1 z)⟩)
    ·cases z
   ·exact .inl (v_ idx a hi x)
  |some s'=>
   exact mR.app (λidx a ha hx=> .inr (hx.app (by obtain⟨op,au,_⟩:=UU ha;exact TH au) λj _ _ hj=> .inl hj)) (λidx a hi x _=> .inl (v_ idx a hi x))
 ·cases ph with
  |none=>exact gJ
  |some p=>
   obtain⟨a1,a2,a3,a4,a5,a6,a7,a8,a9,bW⟩:=gJ;refine⟨a1,a2,a3,Td a4 s.size,Td a5 s.size,a6,a7,λj j' m b1 b2 b3 b4=>a8 j j' m b1 (aU▸b2) b3 (aU▸b4),λj S b1 b2=>by rw[aU];exact a9 j S b1 b2,?_⟩;split
   ·rename_i aI;rw[if_pos aI]at bW;obtain⟨c1,c2,c3,s',c4,c5⟩:=bW;have b:jr p V:=⟨c1.1,c1.2.1,c1.2.2.1,c1.2.2.2⟩;have b':=b.step s a4 a5;refine⟨⟨b'.1,b'.2.1,b'.2.2.1,b'.2.2.2⟩,c2,by rw[aU];exact c3,s',c4,?_⟩;rw[aU];refine c5.keep (λ_=>rfl) (QL p rfl) (s.frame _ a5 b.2.2.1) λrH g hg=> ?_;rcases getElem?_next h.pos hg with⟨e,_⟩|⟨_,y,hy,rfl⟩
    ·omega
    ·rw[Yl (rH y hy)];exact rH y hy
   ·rename_i aI;rw[if_neg aI]at bW;have fe:V.role.chan=some p.c:=by
     unfold vk at hr;split at hr
     ·cases hr
     ·cases hr;rename_i e;rw[e];rfl
     ·cases hr;exact absurd rfl aI
     ·exact hr.elim
    exact⟨s.chan _ _ fe bW.1,bW.2.1,bW.2.2.1,by rw[aU];exact bW.2.2.2.1,bW.2.2.2.2.1,by rw[aU];exact bW.2.2.2.2.2⟩
end
theorem ac2{x y:Wd}{k:Nat}(hx:x.act=.go k)(hy:y.act=.start):∀op∈(#[x,y]:Ui),op.act.touch?=none/\still op.act/\(∀B,op.act.low B)/\∀a,op.act≠ .mark (.release a):=by
 intro op au;simp only[TJ,SL,S4,or_false]at au;rcases au with rfl|rfl
 ·rw[hx];exact⟨rfl,⟨by simp,by simp⟩,λ_=>trivial,by simp⟩
 ·rw[hy];exact⟨rfl,⟨by simp,by simp⟩,λ_=>trivial,by simp⟩
theorem OV{t:Ui}{N:Nat}(h:∀op∈t,op.g<N):US t N=0:=by
 have key:∀k,k<=t.size->t.deaf N k=0:=by
  intro k;induction k with
  |zero=>intro _;rfl
  |succ k ih=>
   intro hk;have hy:t[k]?=some t[k]:=SJ (by omega);have aC:¬t[k].g=N:=(by have:=h t[k] (XX _);omega);rw[ac_ hy,ih (by omega)];unfold deafStep;split<;>simp[aC]
 exact key _ (SU _)
section
variable {VV:Nat->View}{N:Nat}{w:Tq}{t:Ui}{Sh:Loc->Prop}{act act':Nat->Prop}{ic kJ n0:Nat}{W0:Tq}
theorem Core.spawn(h:Core VV N w t Sh act ic n0 W0)(h0:0<N)(aS:US t 0=0){x y:Wd}(hx:x.g=0/\x.act=.go N)(hy:y.g=N/\y.act=.start){U:View}(hi:U.ab=(VV 0).ab)(ho:U.own=λ_=>none)
  (j_:∀i,act' i->act i\/(i=N/\act 0)) (fV:kJ=ic\/(kJ=N/\ic=0)):Core (upd VV N U) (N+1) w (t++#[x,y]) Sh act' kJ n0 W0:=by
 have jD:=ac2 hx.2 hy.2;have hdN:US t N=0:=OV h.ti.gs;have hk:∀{idx},Wn t 0 idx->Wn (t++#[x,y]) N idx:=λ{idx} jF=>fork_knows hx hy aS hdN jF;have hsU:Sat U w:=⟨λb o v e=>(h.sat 0 h0).ab b o v (by rw[<- hi];exact e),λb x e=>by rw[ho]at e;cases e⟩;refine⟨λi cG=> ?_,λa b ha hb dl=> ?_,?_,h.tape,h.os,h.out,h.old,λi cG b hb=> ?_,h.n0⟩
 ·by_cases fA:i=N
  ·subst fA;rw[bw];exact hsU
  ·rw[a_ _ _ fA];exact h.sat i (by omega)
 ·by_cases Qx:a=N
  ·subst Qx;rw[bw];intro q hq;rw[ho]at hq;exact absurd rfl hq
  ·rw[a_ _ _ Qx];by_cases QE:b=N
   ·subst QE;rw[bw];intro q hq;refine⟨by rw[ho],λo hu=> ?_⟩;rw[hi]at hu;by_cases zh:a=0
    ·subst zh;exact hu
    ·exact(h.dx a 0 (by omega) h0 zh q hq).2 o hu
   ·rw[a_ _ _ QE];exact h.dx a b (by omega) (by omega) dl
 ·refine h.ti.mute (λop au=>(jD op au).1) (λop au=>(jD op au).2.2.1 _) (λop au=> ?_) (by omega) (λop au=>(jD op au).2.2.2) (λi cG l hl idx a ha eP rN=> ?_) (λi cG l hl idx a ha eP=> ?_) (λidx a ha dU=>⟨λhp i cG=> ?_,λhp=> ?_⟩)
  ·simp only[TJ,SL,S4,or_false]at au;rcases au with rfl|rfl
   ·omega
   ·omega
  ·obtain⟨_,cX,nG⟩:=hl;by_cases fA:i=N
   ·subst fA;rw[bw]at cX;have:gN (VV 0) l:=by
     cases l with
     |cell a'=>rcases cX with z|z;exact absurd (by rw[ho]) z;exact .inr (by rw[<- hi];exact z)
     |obj r=>exact absurd (by rw[ho]) cX
     |_=>exact cX.elim
    exact hk (h.ti.kr 0 h0 l ⟨h0,this,nG⟩ idx a ha eP rN)
   ·rw[a_ _ _ fA]at cX;exact(h.ti.kr i (by omega) l ⟨by omega,cX,nG⟩ idx a ha eP rN).app _
  ·obtain⟨_,cX,nG⟩:=hl;by_cases fA:i=N
   ·subst fA;rw[bw]at cX;exfalso;cases l with
    |cell a'=>exact cX.1 (by rw[ho])
    |obj r=>exact cX (by rw[ho])
    |_=>exact cX.elim
   ·rw[a_ _ _ fA]at cX;exact(h.ti.kw i (by omega) l ⟨by omega,cX,nG⟩ idx a ha eP).app _
  ·have:=h.ti.sp idx a ha dU;rcases j_ i cG with z|⟨rfl,z⟩
   ·exact(this.1 hp i z).app _
   ·exact hk (this.1 hp 0 z)
  ·have:=h.ti.sp idx a ha dU;rcases fV with rfl|⟨rfl,rfl⟩
   ·exact(this.2 hp).app _
   ·exact hk (this.2 hp)
 ·by_cases fA:i=N
  ·subst fA;rw[bw,ho]
  ·rw[a_ _ _ fA];exact h.jm i (by omega) b hb
end
section
variable {P:SK}{n0:Nat}{W0:Tq}{V:View}{gs gs':Array SH}{w w':Tq}{sl:Option (Nat×Nat)}{t:Ui}{K:Nat->GS}{Im:cC}{ic:Nat}{ph:Option Phase}{p:Phase}{st st':Option eC}
theorem GS.ade{k:GS}(h:k.ni=false)(Im kU:cC):k.view kU=k.view Im:=by cases k<;>first|rfl|cases h
theorem GS.alo{k:GS}{c Wg d:Nat}{Im kU:cC}{Ss NR:List (List Spec)}{g:SH}(h:k.ni=false)(hS:∀(j:Nat) S,Ss[j]?=some S->NR[j]?=some S)(hk:k.is P c Wg Im Ss d g):k.is P c Wg kU NR d g:=by
 cases k with
 |work j hh V=>obtain⟨a,b,S,e,f⟩:=hk;exact⟨a,b,S,hS _ _ e,f⟩
 |nU j hh V V' g0 v z=>obtain⟨a,b,c,d,sp,S,B,e,f⟩:=hk;exact⟨a,b,c,d,sp,S,B,hS _ _ e,f⟩
 |gone q=>exact hk
 |add n=>exact hk
 |load n=>exact hk
 |store n=>exact hk
 |my n=>exact hk
 |head k n=>cases h
 |ma k n=>cases h
 |said n=>cases h
 |ik n=>cases h
 |last n=>cases h
 |acq n=>cases h
 |look n=>cases h
 |close n=>cases h
theorem Inv.spawn(h:Inv P n0 W0 V gs w t K Im ic (some p) st)(aI:p.recv=false)(iL:V.deaf=0){g' child:SH}{x y:Wd}(hx:x.g=0/\x.act=.go gs.size)(hy:y.g=gs.size/\y.act=.start){V':View}{p':Phase}{kU:cC}{kJ:Nat}{k':GS}(hc:p'.c=p.c)(zf:p'.Wg=p.Wg)
  (qg:mE V' V) (ur:V'.deaf=V.deaf) (qu:(k'.view kU).ab=V.ab) (hvo:(k'.view kU).own=λ_=>none) (hSs:∀(j:Nat) S,p.Ss[j]?=some S->p'.Ss[j]?=some S) (BU:k'.is P p.c p.Wg kU p'.Ss 0 child)
  (j_:∀i,i<gs.size->iZ p' (gs.size+1) kJ (upd K gs.size k') i->iZ p gs.size ic K i) (fV:kJ=ic\/kJ=gs.size)
  (Ch:yE P n0 V' ((gs.setIfInBounds 0 g').push child) w (t++#[x,y]) (upd K gs.size k') kU kJ (some p') (some .early)):
  Inv P n0 W0 V' ((gs.setIfInBounds 0 g').push child) w (t++#[x,y]) (upd K gs.size k') kU kJ (some p') (some .early):=by
 obtain⟨dn,gS,mR,gJ⟩:=h.out;obtain⟨a1,a2,a3,a4,a5,a6,a7,a8,a9,bW⟩:=gJ;rw[if_neg (by rw[aI];simp)]at bW;obtain⟨c1,c2,c3,c4,c5,c6⟩:=bW;have aU:((gs.setIfInBounds 0 g').push child).size=gs.size+1:=by simp
 have jD:=ac2 hx.2 hy.2;have bz:∀i,US (t++#[x,y]) i=US t i:=λi=>Deaf_still λop au=>(jD op au).2.1;have Ci:=h.pos;have aS:US t 0=0:=by rw[h.d0,iL]
 have aY:∀i,0<i->(K i).ni=false:=λi hi=>by
  cases e:(K i).ni with
  |false=>rfl
  |true=>have:=h.rZ hi e;omega
 have ajh:nd (some p) gs.size ic K 0:=by
  show iZ p gs.size ic K 0;unfold iZ;rw[if_neg (by rw[aI];simp)];exact .inl rfl
 have xz:=gS.spawn (act':=nd (some p') (gs.size+1) kJ (upd K gs.size k')) (kJ:=kJ) Ci aS hx hy (U:=k'.view kU) (by rw[kS];exact qu) hvo (λi hi=>by
   by_cases fA:i<gs.size
   ·exact .inl (j_ i fA hi)
   ·refine .inr ⟨?_,ajh⟩;have cG:iZ p' (gs.size+1) kJ (upd K gs.size k') i:=hi;unfold iZ at cG;split at cG<;>omega) (fV.imp id λe=>⟨e,c2⟩)
 have ajG:=(xz.less (i:=0) (V':=V') (by omega) (by rw[a_ _ _ (by omega),kS];exact qg)).congr (DT:=bD V' kU (upd K gs.size k')) λi hi=>by
  by_cases eY:i=0
  ·subst eY;rw[bw];simp[bD]
  ·rw[a_ _ _ eY];by_cases fA:i=gs.size
   ·subst fA;rw[bw];simp[bD,eY,bw]
   ·rw[a_ _ _ fA];simp only[bD,eY,if_false,a_ _ _ fA];exact GS.ade (aY i (by omega)) _ _
 refine Inv.mk' (by omega) (by rw[a_ _ _ (by omega)];exact h.k0) (by rw[bz,ur];exact h.d0) (λi z hi hz=> ?_) ?_ ?_ Ch
 ·rw[bz];show (upd K gs.size k' i).is P p'.c p'.Wg kU p'.Ss _ z;rw[hc,zf];by_cases fA:i=gs.size
  ·subst fA;rw[bw,OV gS.ti.gs];have:z=child:=by
    rw[show gs.size=(gs.setIfInBounds 0 g').size by simp]at hz;rw[Array.getElem?_push_size]at hz;exact(VX hz).symm
   rw[this];exact BU
  ·have asV:i<gs.size:=(by have:=(SS.1 hz).1;omega);rw[a_ _ _ fA];rw[Xk,if_neg (by simp;omega),SR (by omega)]at hz;exact GS.alo (aY i hi) hSs (dn i z hi hz)
 ·rw[aU];have e:rX (some p')=rX (some p):=by show qQ p'.c p'.Wg=qQ p.c p.Wg;rw[hc,zf]
  rw[e];exact ajG
 ·have hr:Rest p.Wg t K ic st:=mR;rw[c3]at hr;show Rest p'.Wg _ _ _ _;rw[zf];intro idx a ha hm;have gq:=As (λop au=>(jD op au).1) ha;obtain⟨op,au,_⟩:=UU gq;have hlt:=TH au;rcases hr idx a gq hm with z|⟨z1,z2⟩|⟨s,hs,jF⟩
  ·exact .inl (z.app _)
  ·exact .inr (.inl ⟨z1,λz=>z2 ((Wr hlt).1 z)⟩)
  ·cases hs;obtain⟨i,hg,hi,hz⟩:=jF;have fA:i<gs.size:=by
    obtain⟨op',aO,pk⟩:=Tp.1 hg;rw[<- pk];exact gS.ti.gs op' (XW aO)
   refine .inr (.inr ⟨.early,rfl,i,by rw[g?_old hlt];exact hg,hi,?_⟩);rcases hz with hz|hz|⟨r,hz,hle⟩
   ·exact .inl (by rw[a_ _ _ (by omega)];exact hz)
   ·omega
   ·exact .inr (.inr ⟨r,hz.app,hle⟩)
theorem Sat.Ll{c:Nat}{a:Nat}{x:Bool}{y z:Nat}{u:Bool}{Ec:Array SO}(h:Sat V w)(hc:w.heap[c]?=some (.chan a Ec x y z u))(o:Nat):V.ab c o=none:=by
 cases e:V.ab c o with
 |none=>rfl
 |some v=>have:=h.ab c o v e;simp[Uy,hc]at this
theorem Inv.aaU(h:Inv P n0 W0 V gs w t K Im ic (some p) st)(aI:p.recv=false){i:Nat}(hi:0<i):(K i).ni=false:=by
 have hx:=h.phase.2.2.2.2.2.2.2.2.2;rw[if_neg (by rw[aI];simp)]at hx;cases e:(K i).ni with
 |false=>rfl
 |true=>have:=h.rZ hi e;have:=hx.2.1;omega
theorem Inv.EA(h:Inv P n0 W0 V gs w t K Im ic (some p) st)(aI:p.recv=false)(iL:V.deaf=0){g' child:SH}{x y:Wd}(hx:x.g=0/\x.act=.go gs.size)(hy:y.g=gs.size/\y.act=.start){hh:Ht}{sp:Spec}{S:List Spec}(hlen:p.Ss.length<4)(ou:∀o,V.ab p.Wg o=none)
  (BU:lG P hh {ab:=V.ab,own:=λ_=>none,deaf:=0,role:=.work p.c p.Wg (sp::S)} child):
  Inv P n0 W0 {V with role:=.fork p.c p.Wg (p.Ss++[sp::S])} ((gs.setIfInBounds 0 g').push child) w (t++#[x,y]) (upd K gs.size (.work p.Ss.length hh {ab:=V.ab,own:=λ_=>none,deaf:=0,role:=.work p.c p.Wg (sp::S)})) Im ic
   (some {p with Ss:=p.Ss++[sp::S]}) (some .early):=by
 obtain⟨dn,gS,mR,gJ⟩:=h.out;obtain⟨a1,a2,a3,a4,a5,a6,a7,a8,a9,bW⟩:=gJ;rw[if_neg (by rw[aI];simp)]at bW;obtain⟨c1,c2,c3,c4,c5,c6⟩:=bW;have aU:((gs.setIfInBounds 0 g').push child).size=gs.size+1:=by simp
 have dM:Sat V w:=by have:=gS.sat 0 h.pos;rwa [kS]at this
 have zn:=dM.Ll (dM.own _ _ c1);have db:∀i j,0<i->i<gs.size->(K i).idx=some j->j<p.Ss.length:=λi j hi hlt e=>by
  have Q5:=dn i _ hi (SJ hlt);have Ki:(K i).is P p.c p.Wg Im p.Ss (US t i) gs[i]:=Q5;cases lc:K i<;>rw[lc]at e Ki<;>simp[GS.idx]at e
  ·subst e;obtain⟨_,_,S,e,_⟩:=Ki;exact(SN.1 e).1
  ·subst e;obtain⟨_,_,_,_,_,_,_,e,_⟩:=Ki;exact(SN.1 e).1
 refine h.spawn aI iL hx hy rfl rfl ⟨λ_=> .inr rfl,λ_ _=> .inr rfl,λ_ _ _=>rfl⟩ rfl rfl rfl (λj S' e=> ?_) ⟨rfl,BU,sp::S,by simp,rfl⟩ (λi hi j_=> ?_) (.inl rfl) ?_
 ·show (p.Ss++[sp::S])[j]?=some S';rw[SW (SN.1 e).1];exact e
 ·unfold iZ at j_⊢;rw[if_neg (by show ¬p.recv=true;rw[aI];simp)]at j_;rw[if_neg (by rw[aI];simp)];rw[a_ _ _ (by omega)]at j_;exact j_.imp id λz=>⟨hi,z.2⟩
 ·refine⟨a1,a2,a3,a4,a5,by simp only[SQ,Uh,UQ];omega,λi hi=> ?_,λi i' j b1 b2 b3 b4 b5 b6=> ?_,λj S' b1 b2=> ?_,?_⟩
  ·by_cases fA:i=gs.size
   ·subst fA;rw[bw];exact⟨rfl,zn,rfl,ou,λe=>by cases e⟩
   ·rw[a_ _ _ fA];exact a7 i hi
  ·rw[aU]at b2 b4;by_cases e1:i=gs.size
   ·by_cases e2:i'=gs.size
    ·omega
    ·rw[a_ _ _ e2]at b6;have:=db i' j b3 (by omega) b6;subst e1;rw[bw]at b5;simp only[GS.idx,Tm]at b5;omega
   ·rw[a_ _ _ e1]at b5;by_cases e2:i'=gs.size
    ·have:=db i j b1 (by omega) b5;subst e2;rw[bw]at b6;simp only[GS.idx,Tm]at b6;omega
    ·rw[a_ _ _ e2]at b6;exact a8 i i' j b1 (by omega) b3 (by omega) b5 b6
  ·rw[aU];by_cases hj:j<p.Ss.length
   ·have:p.Ss[j]?=some S':=by
     have Ie:(p.Ss++[sp::S])[j]?=some S':=b1;rwa [SW hj]at Ie
    obtain⟨i,e1,e2,e3⟩:=a9 j S' this b2;exact⟨i,e1,by omega,by rw[a_ _ _ (by omega)];exact e3⟩
   ·have gH:j=p.Ss.length:=by
     have:=(SN.1 (show (p.Ss++[sp::S])[j]?=some S' from b1)).1;simp at this;omega
    exact⟨gs.size,h.pos,by omega,by rw[bw,gH];rfl⟩
  ·show if p.recv=true then _ else _;rw[if_neg (by rw[aI];simp)];refine⟨c1,c2,rfl,λi b1 b2=> ?_,λS' hS'=> ?_,?_⟩
   ·rw[aU]at b2;by_cases fA:i=gs.size
    ·subst fA;rw[bw];exact .inl rfl
    ·rw[a_ _ _ fA];exact c4 i b1 (by omega)
   ·rcases SV.1 hS' with z|z
    ·exact c5 S' z
    ·simp at z;subst z;simp
   ·rw[aU,sumTo,bw,SQ,<- c6];rw[Vl (g:=λi=>(K i).cnt) λi hi=>by rw[a_ _ _ (by omega)]];rfl
theorem Inv.Ez(h:Inv P n0 W0 V gs w t K Im ic (some p) st)(aI:p.recv=false)(iL:V.deaf=0){g' child:SH}{x y:Wd}(hx:x.g=0/\x.act=.go gs.size)(hy:y.g=gs.size/\y.act=.start){n:Nat}
  (zf:V.own p.Wg=some (wgBlock P (((p.Ss.length:Nat):Int)* KK) 0)) (ou:∀o,V.ab p.Wg o=none) (BU:cU P (eN P V.ab p.c p.Wg 5) n 0 child):
  Inv P n0 W0 {V with own:=λb=>if b=p.c\/b=p.Wg then none else V.own b,role:=.recv p.c p.Wg p.Ss} ((gs.setIfInBounds 0 g').push child) w (t++#[x,y]) (upd K gs.size (.head 5 n)) V.ab gs.size (some {p with recv:=true}) (some .early):=by
 obtain⟨dn,gS,mR,gJ⟩:=h.out;obtain⟨a1,a2,a3,a4,a5,a6,a7,a8,a9,bW⟩:=gJ;rw[if_neg (by rw[aI];simp)]at bW;obtain⟨c1,c2,c3,c4,c5,c6⟩:=bW;have aU:((gs.setIfInBounds 0 g').push child).size=gs.size+1:=by simp
 have dM:Sat V w:=by have:=gS.sat 0 h.pos;rwa [kS]at this
 have zn:=dM.Ll (dM.own _ _ c1);have Ci:=h.pos;refine h.spawn aI iL hx hy rfl rfl ⟨λb=> ?_,λ_ _=> .inr rfl,λ_ _ _=>rfl⟩ rfl rfl rfl (λj S' e=>e) BU (λi hi j_=> ?_) (.inr rfl) ?_
 ·by_cases e:b=p.c\/b=p.Wg
  ·exact .inl (by simp only[e,if_true])
  ·exact .inr (by simp only[e,if_false])
 ·unfold iZ at j_⊢;rw[if_pos rfl]at j_;rw[if_neg (by rw[aI];simp)];rw[a_ _ _ (by omega)]at j_;obtain⟨z1,_,z2⟩:=j_;rcases c4 i z1 hi with z|⟨q,z⟩
  ·exact .inr ⟨hi,z⟩
  ·exfalso;rw[z]at z2;rcases z2 with z2|z2|z2|z2
   ·cases z2
   ·omega
   ·cases z2
   ·cases z2
 ·refine⟨a1,a2,a3,a4,a5,a6,λi hi=> ?_,λi i' j b1 b2 b3 b4 b5 b6=> ?_,λj S' b1 b2=> ?_,?_⟩
  ·by_cases fA:i=gs.size
   ·subst fA;rw[bw];exact⟨rfl,zn,rfl,ou,λ_=>rfl⟩
   ·rw[a_ _ _ fA,GS.ade (h.aaU aI hi) Im];have:=a7 i hi;exact⟨this.1,this.2.1,this.2.2.1,this.2.2.2.1,λe=>by rw[h.aaU aI hi]at e;cases e⟩
  ·rw[aU]at b2 b4;by_cases e1:i=gs.size
   ·subst e1;rw[bw]at b5;cases b5
   ·by_cases e2:i'=gs.size
    ·subst e2;rw[bw]at b6;cases b6
    ·rw[a_ _ _ e1]at b5;rw[a_ _ _ e2]at b6;exact a8 i i' j b1 (by omega) b3 (by omega) b5 b6
  ·obtain⟨i,e1,e2,e3⟩:=a9 j S' b1 b2;exact⟨i,e1,by omega,by rw[a_ _ _ (by omega)];exact e3⟩
  ·show if true=true then _ else _;rw[if_pos rfl];refine⟨⟨by simp,zn,by simp,ou⟩,by omega,by rw[aU];omega,.early,rfl,?_⟩;rw[aU];have e1:sumTo (gs.size+1) (λi=>(upd K gs.size (.head 5 n) i).cnt)=p.Ss.length:=by
    rw[sumTo,bw,<- c6];rw[Vl (g:=λi=>(K i).cnt) λi hi=>by rw[a_ _ _ (by omega)]];rfl
   have e2:sumTo (gs.size+1) (λi=>(upd K gs.size (.head 5 n) i).late)=0:=by
    have hz:∀N,sumTo N (λ_=>0)=0:=λN=>(by induction N with|zero=>rfl|succ N ih=>simp[sumTo,ih]);rw[sumTo,bw];rw[Vl (g:=λ_=>0) λi hi=> ?_,hz]
    ·rfl
    ·rw[a_ _ _ (by omega)];rcases UZ i with rfl|eY
     ·rw[h.k0];rfl
     ·rcases c4 i eY hi with z|⟨q,z⟩
      ·cases lc:K i<;>rw[lc]at z<;>first|rfl|cases z
      ·rw[z];rfl
   unfold Mode;simp only[e1,e2,bw];exact .inl ⟨⟨0,dM.own _ _ c1⟩,trivial,trivial,a6,dM.own _ _ zf,.inl ⟨5,rfl,by omega⟩⟩
theorem Inv.begin(h:Inv P n0 W0 V gs w t K Im ic none st){c Wg:Nat}(aC:c≠Wg)(hc:V.own c=some (.chan 0 #[] false 0 0 false)) (hW:V.own Wg≠none) (ou:∀o,V.ab Wg o=none):
  Inv P n0 W0 {V with role:=.fork c Wg []} gs w t (λi=>if i<gs.size then K i else .gone 0) Im 0 (some ⟨c,Wg,[],false⟩) (some .early):=by
 obtain⟨dn,gS,mR,gJ⟩:=h.out;have dM:Sat V w:=by have:=gS.sat 0 h.pos;rwa [kS]at this
 have zn:=dM.Ll (dM.own _ _ hc);have sV:∀i,(∃q,(if i<gs.size then K i else .gone 0)=GS.gone q):=λi=>by
  by_cases hi:i<gs.size
  ·rw[if_pos hi];rcases UZ i with rfl|eY
   ·exact⟨0,h.k0⟩
   ·obtain⟨q,hq,_⟩:=dn i _ eY (SJ hi);exact⟨q,hq⟩
  ·rw[if_neg hi];exact⟨0,rfl⟩
 have iq:∀{b x},V.own b=some x->n0<=b/\b<w.heap.size:=λ{b x} e=>by
  refine⟨?_,dM.lt e⟩;apply Nat.le_of_not_lt;intro hb;have:=gS.jm 0 h.pos b hb;rw[kS,e]at this;cases this
 obtain⟨xW,Sm⟩:∃x,V.own Wg=some x:=by cases e:V.own Wg with|none=>exact absurd e hW|some x=>exact⟨x,rfl⟩
 have mm:∀i,0<i->((if i<gs.size then K i else .gone 0).view Im)=noView:=λi _=>by obtain⟨q,e⟩:=sV i;rw[e];rfl
 refine Inv.mk' h.pos (by rw[if_pos h.pos];exact h.k0) h.d0 (λi x hi hx=> ?_) ?_ ?_ ?_
 ·have hlt:i<gs.size:=(SS.1 hx).1;obtain⟨q,hq,hy⟩:=dn i x hi hx;show (if i<gs.size then K i else .gone 0).is P c Wg Im [] _ x;rw[if_pos hlt,hq];exact hy
 ·have ba:Core (bD {V with role:=.fork c Wg []} Im (λi=>if i<gs.size then K i else .gone 0)) gs.size w t (rX none) (nd none gs.size ic K) ic n0 W0:=by
   refine(gS.role (i:=0) (V':={V with role:=.fork c Wg []}) h.pos (by rw[kS]) (by rw[kS])).congr λi hi=> ?_;by_cases eY:i=0
   ·subst eY;rw[bw];simp[bD]
   ·rw[a_ _ _ eY];simp[bD,eY,hi]
  refine⟨ba.sat,ba.dx,?_,ba.tape,ba.os,ba.out,ba.old,ba.jm,ba.n0⟩;refine ba.ti.weaken (SU _) (λi l _ x=> .inl ⟨x.1,x.2.1,λz=>z.elim⟩) (λi l _ x=>⟨x.1,x.2.1,λz=>z.elim⟩) (λidx a ha dU=> ?_);have hk:Wn t 0 idx:=by
   have xU:jN V a.loc:=by
    have zH:qQ c Wg a.loc:=dU;cases hl:a.loc with
    |cell ad=>rw[hl]at zH;have e:ad.block=Wg:=zH;exact⟨by rw[e];exact hW,by rw[e];exact ou _⟩
    |obj r=>rw[hl]at zH;have e:r=c:=zH;show V.own r≠none;rw[e,hc];simp
    |_=>rw[hl]at zH;exact zH.elim
   exact gS.ti.kw 0 h.pos a.loc ⟨h.pos,by rw[kS];exact xU,λz=>z.elim⟩ idx a ha rfl
  refine⟨λ_ i hi=> ?_,λ_=>hk⟩;have cG:iZ ⟨c,Wg,[],false⟩ gs.size 0 (λi=>if i<gs.size then K i else .gone 0) i:=hi;unfold iZ at cG;rw[if_neg (by simp)]at cG;rcases cG with rfl|⟨_,e⟩
  ·exact hk
  ·obtain⟨q,eq⟩:=sV i;simp only[eq]at e;cases e
 ·have aT:st=none:=gJ;intro idx a ha hm;rcases mR idx a ha hm with z|z|⟨s,e,_⟩
  ·exact .inl z
  ·exact .inr (.inl z)
  ·rw[aT]at e;cases e
 ·refine⟨(iq hc).1,(iq Sm).1,aC,(iq hc).2,(iq Sm).2,by simp,λi hi=> ?_,λi i' j _ _ _ _ b5=> ?_,λj S b1=>by simp at b1,?_⟩
  ·rw[mm i hi];exact⟨rfl,λ_=>rfl,rfl,λ_=>rfl,λe=>by obtain⟨q,eq⟩:=sV i;simp only[eq]at e;cases e⟩
  ·obtain⟨q,eq⟩:=sV i;simp only[eq]at b5;cases b5
  ·show if false=true then _ else _;rw[if_neg (by simp)];refine⟨hc,rfl,rfl,λi _ _=> .inr (sV i),by simp,?_⟩;have hz:∀N,sumTo N (λ_=>0)=0:=λN=>(by induction N with|zero=>rfl|succ N ih=>simp[sumTo,ih]);rw[Vl (g:=λ_=>0) λi _=>by obtain⟨q,eq⟩:=sV i;show (if i<gs.size then K i else GS.gone 0).cnt=0;rw[eq];rfl];exact hz _
theorem Inv.apX(h:Inv P n0 W0 V gs w t K Im ic (some p) st)(aI:p.recv=true)(iL:V.deaf=0){g0 g':SH}{n:Nat}(aY:w.heap[p.c]?=some (.chan 0 #[] true n n false)) {y:Wd} (hy:y.g=0/\y.act=.recvClosed p.c):
  (∀S∈p.Ss,S=[])/\Inv P n0 W0 {V with role:=.plain} (gs.setIfInBounds 0 g') w (t++#[y]) K Im ic none none:=by
 obtain⟨dn,gS,mR,gJ⟩:=h.out;obtain⟨a1,a2,a3,a4,a5,a6,a7,a8,a9,bW⟩:=gJ;rw[if_pos aI]at bW;obtain⟨c1,c2,c3,s,c4,c5⟩:=bW;have xJ:(∃pp n,s=.shut pp/\t.act? pp=some (.close p.c)/\t.heard pp/\w.heap[p.c]?=some (.chan 0 #[] true n n false))/\(sumTo gs.size λi=>(K i).late)=0/\(sumTo gs.size λi=>(K i).cnt)=0/\(K ic).shape=.gone 0:=by
  have no:¬∃n,w.heap[p.c]?=some (.chan 0 #[] false n n false):=λ⟨m,e⟩=>by rw[aY]at e;simp at e
  unfold Mode at c5;rcases c5 with m|m|m|m|m|m|m
  ·exact absurd m.1 no
  ·exact absurd m.1 no
  ·exact absurd m.1 no
  ·exact absurd m.1 no
  ·exact absurd m.1 no
  ·exact absurd m.1 no
  ·exact m
 obtain⟨⟨pp,n',rfl,m1,m2,_⟩,m3,m4,m5⟩:=xJ;have sV:∀i,i<gs.size->∃q,K i=.gone q:=λi hi=>by
  have e1:(K i).cnt<=sumTo gs.size λi=>(K i).cnt:=WC (f:=λi=>(K i).cnt) hi;have e2:(K i).late<=sumTo gs.size λi=>(K i).late:=WC (f:=λi=>(K i).late) hi;rcases UZ i with rfl|eY
  ·exact⟨0,h.k0⟩
  ·have hc:=h.rZ (i:=i) eY;have z1:(K i).cnt=0:=(by omega);have z2:(K i).late=0:=(by omega);clear e1 e2;cases lc:K i<;>rw[lc]at z1 z2 hc<;>first
    |exact⟨_,rfl⟩
    |(exfalso;simp[GS.cnt]at z1;done)
    |(exfalso;simp[GS.late]at z2;done)
    |(exfalso;have:=hc rfl;subst this;rw[lc]at m5;cases m5)
 have bV:jr p V:=⟨c1.1,c1.2.1,c1.2.2.1,c1.2.2.2⟩;have aS:US t 0=0:=by rw[h.d0,iL]
 have nM:∀op∈(#[y]:Ui),op.act.touch?=none/\still op.act/\op.act.low w.heap.size/\(∀a,op.act≠ .mark (.release a))/\op.g=0:=by
  intro op au;simp only[TJ,SL,S4,or_false]at au;subst au;rw[hy.2];exact⟨rfl,⟨by simp,by simp⟩,a4,by simp,hy.1⟩
 have bz:∀i,US (t++#[y]) i=US t i:=λi=>Deaf_still λop au=>(nM op au).2.1;have aU:(gs.setIfInBounds 0 g').size=gs.size:=by simp
 refine⟨λS hS=> ?_,?_⟩
 ·obtain⟨j,hj⟩:=UP.1 hS;apply Tt;intro aC;obtain⟨i,e1,e2,e3⟩:=a9 j S hj aC;obtain⟨q,e⟩:=sV i e2;rw[e]at e3;cases e3
 ·refine Inv.mk' (by rw[aU];exact h.pos) h.k0 (by rw[bz];exact h.d0) (λi x hi hx=> ?_) ?_ ?_ rfl
  ·rw[SR (by omega)]at hx;have hlt:i<gs.size:=(SS.1 hx).1;obtain⟨q,e⟩:=sV i hlt;have hk:(K i).is P p.c p.Wg Im p.Ss (US t i) x:=dn i x hi hx;rw[e]at hk;rw[bz];exact⟨q,e,hk⟩
  ·rw[aU];have h1:=(gS.role (i:=0) (V':={V with role:=.plain}) h.pos (by rw[kS]) (by rw[kS])).congr (DT:=bD {V with role:=.plain} Im K) λi hi=>by
    by_cases eY:i=0
    ·subst eY;rw[bw];simp[bD]
    ·rw[a_ _ _ eY];simp[bD,eY]
   have aaX:∀i l,i<gs.size->gN (bD {V with role:=.plain} Im K i) l->¬qQ p.c p.Wg l:=λi l hi hl=>by
    by_cases eY:i=0
    ·subst eY;have b':jr p (bD {V with role:=.plain} Im K 0):=(by simp only[bD,if_true];exact bV);exact b'.zX hl
    ·obtain⟨q,e⟩:=sV i hi;have:bD {V with role:=.plain} Im K i=noView:=(by simp only[bD,eY,if_false,e];rfl);rw[this]at hl;exact afD.zX hl
   refine⟨h1.sat,h1.dx,?_,h1.tape,h1.os,h1.out,h1.old,h1.jm,h1.n0⟩;have wb:=h1.ti.mute (u:=#[y]) (N':=gs.size) (rd':=λi l=>i<gs.size/\gN (bD {V with role:=.plain} Im K i) l/\¬rX none l) (wr':=λi l=>i<gs.size/\jN (bD {V with role:=.plain} Im K i) l/\¬rX none l) (act':=nd (some p) gs.size ic K) (kJ:=ic)
    (λop au=>(nM op au).1) (λop au=>(nM op au).2.2.1) (λop au=>by rw[(nM op au).2.2.2.2];exact h.pos) (SU _) (λop au=>(nM op au).2.2.2.1)
    (λi hi l hl idx a ha eP hw=>(h1.ti.kr i hi l ⟨hl.1,hl.2.1,aaX i l hi hl.2.1⟩ idx a ha eP hw).app _) (λi hi l hl idx a ha eP=>(h1.ti.kw i hi l ⟨hl.1,hl.2.1,aaX i l hi hl.2.1.rd⟩ idx a ha eP).app _)
    (λidx a ha dU=>⟨λhp i hi=>((h1.ti.sp idx a ha dU).1 hp i hi).app _,λhp=>((h1.ti.sp idx a ha dU).2 hp).app _⟩)
   exact wb.weaken (SU _) (λ_ _ _ x=> .inl x) (λ_ _ _ x=>x) (λidx a _ hx=>hx.elim)
  ·have hr:Rest p.Wg t K ic st:=mR;rw[c4]at hr;intro idx a ha hm;have gq:=As (λop au=>(nM op au).1) ha;obtain⟨op,au,_⟩:=UU gq;rcases hr idx a gq hm with z|⟨z1,z2⟩|⟨s,hs,hx⟩
   ·exact .inl (z.app _)
   ·exact .inr (.inl ⟨z1,λz=>z2 ((Wr (TH au)).1 z)⟩)
   ·cases hs;exact .inl (af4 m1 m2 hy aS hx)
theorem Inv.amI(h:Inv P n0 W0 V gs w t K Im ic (some p) st)(aI:p.recv=true)(x:SH):Inv P n0 W0 V (gs.setIfInBounds 0 x) w t K Im ic (some p) st:=by
 obtain⟨dn,gS,mR,gJ⟩:=h.out;obtain⟨a1,a2,a3,a4,a5,a6,a7,a8,a9,bW⟩:=gJ;have aU:(gs.setIfInBounds 0 x).size=gs.size:=by simp
 rw[if_pos aI]at bW;obtain⟨c1,c2,c3,s,c4,c5⟩:=bW;refine Inv.mk' (by rw[aU];exact h.pos) h.k0 h.d0 (λi z hi hz=> ?_) (by rw[aU];exact gS) mR ⟨a1,a2,a3,a4,a5,a6,a7,by rw[aU];exact a8,by rw[aU];exact a9,?_⟩
 ·rw[SR (by omega)]at hz;exact dn i z hi hz
 ·rw[if_pos aI];refine⟨c1,c2,by rw[aU];exact c3,s,c4,?_⟩;rw[aU];have e0:t=t++#[]:=by simp
  rw[e0];exact c5.keep (λ_=>rfl) rfl rfl λrH g hg=>by rw[SR (by omega)]at hg;exact rH g hg
end
def MJ (P:SK)(Post:SO->Tq->Prop)(n0:Nat)(W0:Tq)(V:View)(g:SH):Prop:=
 g.status=.running/\∀gs w sl t K Im ic ph st,Inv P n0 W0 V gs w t K Im ic ph st->vk V.role ph->kB gs g->Ok P Post (crowd gs w sl) t
section
variable {P:SK}{Post:SO->Tq->Prop}{n0:Nat}{W0:Tq}
def adC (P:SK)(Post:SO->Tq->Prop)(gs:Array SH)(w:Tq)(sl:Option (Nat×Nat))(t:Ui):Prop:=
 (∃m' ops,runT P (crowd gs w sl) 0=(.next m',ops)/\Ok P Post m' (t++ops))\/∃o w' ops,runT P (crowd gs w sl) 0=(.ended o w',ops)/\∀w0 Da,W1 P Post (crowd gs w0 Da) o w' (t++ops)
theorem kB.pos{gs:Array SH}{g:SH}(h:kB gs g):∃(i:Nat)(x:SH),gs[i]?=some x/\x.status=.running:=by
 obtain⟨g0,h0,h1,_⟩:=h;exact⟨0,g0,h0,h1⟩
theorem MJ.iW{V:View}{g:SH}(hg:g.status=.running)(own:∀gs w sl t K Im ic ph st,Inv P n0 W0 V gs w t K Im ic ph st->vk V.role ph->kB gs g->adC P Post gs w sl t):MJ P Post n0 W0 V g:=by
 refine⟨hg,λgs w sl t K Im ic ph st h hr hm=> ?_⟩;generalize hN:gs.size=N;generalize hμ:((λj=>(K j).dc),flag gs ic)=μ;induction μ using(aaP N).induction generalizing gs w sl t K st with
 |_ μ ih=>
  obtain⟨i,gi,d,oK,aM,bL,aT⟩:=ZY (P:=P) (w:=w) (sl:=sl) (h.awake (.inl hm)) hm.pos;have hd:=h.draw d;rcases UZ i with rfl|hi
  ·rcases own _ _ oK _ _ _ _ _ _ hd hr hm with⟨m',ops,h1,h2⟩|⟨o,w',ops,h1,h2⟩
   ·exact Ok.step (aT.trans h1) h2
   ·exact Ok.end (aT.trans h1) (h2 w sl)
  ·rcases hd.other (sl:=oK) (.inl hm) hi aM bL with⟨gs',w',ops,K',st',h1,h2,h3,h4,_,h5⟩|⟨p,_,_,jh⟩
   ·have pi:kB gs' g:=by
     cases ph with
     |none=>exact(h4 g 0 (by simp)).1 hm
     |some p=>exact(h4 g p.c (λq hq=>by cases hq;rfl)).1 hm
    exact Ok.step (aT.trans h1) (ih _ (by rw[<- hμ,<- hN];exact h5) gs' w' oK _ K' st' h3 pi (by rw[h2,hN]) rfl)
   ·obtain⟨g0,h0,hs,_⟩:=hm;obtain⟨g1,z,h1,_⟩:=jh;rw[h1]at h0;cases h0;cases hs
theorem MJ.recv{V:View}{g:SH}{c Wg:Nat}{Ss:List (List Spec)}{z:SO}(ji:V.role=.recv c Wg Ss)(iL:V.deaf=0)(hg:g.status=.running)
  (lw:∀w,Sat V w->stepG P true g w=.comm g #[rcase c z] true (.recv true) w #[])
  (J1:∀(i:Nat) sp S v Im Ow,Ss[i]?=some (sp::S)->sp v Im Ow->(∀b,V.own b≠none->Ow b=none)->(∀b o,V.own b≠none->Im b o≠none->V.ab b o≠none)->(∃w,Sat V w/\(∀b o x,Im b o=some x->w.cell? ⟨b,o,none⟩=some x)/\∀b x,Ow b=some x->w.heap[b]?=some x)->
   MJ P Post n0 W0 (nP V Im Ow (.recv c Wg (Ss.set i S))) (T1 g (.tuple #[v,.bool true])))
  (J2:(∀S∈Ss,S=[])->MJ P Post n0 W0 {V with role:=.plain} (T1 g (.tuple #[z,.bool false]))):MJ P Post n0 W0 V g:=by
 have met:∀{gs w sl t K Im ic st i},Inv P n0 W0 V gs w t K Im ic (some ⟨c,Wg,Ss,true⟩) st->DN P n0 W0 V gs w sl t Im ic ⟨c,Wg,Ss,true⟩ st g i->∀{m},stepT P m=runT P (crowd gs w sl) i->Ok P Post m t:=by
  rintro gs w sl t K Im ic st i _ ⟨gs',w',ops,K',j,sp,S,v,kU,Ow,h1,h2,h3,h4,h5,h6,h6',h7,h8⟩ m hm
  exact Ok.step (hm.trans h1) ((J1 j sp S v kU Ow h4 h5 h6 h6' h7).2 gs' w' sl _ K' Im ic _ st h8 rfl h3)
 refine⟨hg,λgs w sl t K Im ic ph st h hr hm=> ?_⟩;have gJ:ph=some ⟨c,Wg,Ss,true⟩:=by rw[ji]at hr;exact hr
 subst gJ
 suffices key:∀N μ gs w sl t K st,Inv P n0 W0 V gs w t K Im ic (some ⟨c,Wg,Ss,true⟩) st->gs.size=N->((λj=>(K j).dc),flag gs ic)=μ->(kB gs g\/(n5 gs g c/\Calm gs/\yD w c))->Ok P Post (crowd gs w sl) t from key _ _ gs w sl t K st h rfl rfl (.inl hm)
 clear h hr hm;intro N μ;induction μ using(aaP N).induction with
 |_ μ ih=>
  have A:∀gs w sl t K st,Inv P n0 W0 V gs w t K Im ic (some ⟨c,Wg,Ss,true⟩) st->gs.size=N->((λj=>(K j).dc),flag gs ic)=μ->n5 gs g c->Calm gs->yD w c->Ok P Post (crowd gs w sl) t:=by
   intro gs w sl t K st h hN hμ jh sR ho;have qi:kB gs g\/∃p,some (Phase.mk c Wg Ss true)=some p/\p.recv=true/\V.deaf=0/\n5 gs g p.c:=.inr ⟨_,rfl,rfl,iL,jh⟩;have ak5:∃(i:Nat)(x:SH),gs[i]?=some x/\x.status=.running:=by
    obtain⟨i,x,_,h1,h2⟩:=h.ap1 rfl ho sR;exact⟨i,x,h1,h2⟩
   obtain⟨i,gi,d,oK,aM,bL,aT⟩:=ZY (P:=P) (w:=w) (sl:=sl) (h.awake qi) ak5;have hd:=h.draw d;have hi:0<i:=by
    rcases UZ i with rfl|hi
    ·obtain⟨g1,z1,h1,_⟩:=jh;rw[h1]at aM;cases aM;cases bL
    ·exact hi
   rcases hd.other (sl:=oK) qi hi aM bL with⟨gs',w',ops,K',st',h1,h2,h3,h4,h5,h6⟩|⟨p,hp,ux,_⟩
   ·refine Ok.step (aT.trans h1) (ih _ (by rw[<- hμ,<- hN];exact h6) gs' w' oK _ K' st' h3 (by rw[h2,hN]) rfl ?_);rcases(h4 g c (λq hq=>by cases hq;rfl)).2 jh ho with x|⟨x,y⟩
    ·exact .inl x
    ·exact .inr ⟨x,h5 g c jh sR,y⟩
   ·cases hp;exact met hd ux aT
  intro gs w sl t K st h hN hμ pi;rcases pi with hm|⟨h1,h2,h3⟩
  ·obtain⟨i,gi,d,oK,aM,bL,aT⟩:=ZY (P:=P) (w:=w) (sl:=sl) (h.awake (.inl hm)) hm.pos;have hd:=h.draw d;rcases UZ i with rfl|hi
   ·
    obtain⟨g0,h0,oy,lg,iO,mP⟩:=hm;have fB:Sat V (w.at d):=(by have:=hd.core.sat 0 h.pos;rwa [kS]at this);have lr:stepG P (0==0) g0 (w.at d)=.comm g #[rcase c z] true (.recv true) (w.at d) #[]:=(by rw[<- lw _ fB];exact Xf lg iO mP _);have e0:(t++Te 0 g0.frame.fn g0.frame.place #[])=t:=(by simp[Te]);rcases hd.opens rfl with⟨n,gI⟩|⟨akl,⟨n,aY⟩,_⟩
    ·by_cases RR:∃i j h' V₁ V₂ g1 v z1,0<i/\i<gs.size/\K i=.nU j h' V₁ V₂ g1 v z1
     ·exact met hd (hd.aoX (sl:=oK) rfl iL ⟨g0,h0,oy,lg,iO,mP⟩ (lw _ fB) RR) aT
     ·have offers:∀m x,0<m->gs[m]?=some x->x.status=.blocked->x.offers=none:=by
       intro m x iQ hx hb;rcases GS.runs (show (K m).is P c Wg Im Ss (US t m) x from h.is m x iQ hx)with e|⟨e,_⟩|⟨j,h',V1,V2,g1,v,z1,e⟩|⟨_,_,e⟩
       ·rw[e]at hb;cases hb
       ·rw[e]at hb;cases hb
       ·exact absurd ⟨m,j,h',V1,V2,g1,v,z1,iQ,(SS.1 hx).1,e⟩ RR
       ·exact e
      have hw:=crowd_waits (P:=P) (sl:=oK) (i:=0) h0 lr (λcc jc=>by
       simp only[TJ,SL,S4,or_false]at jc;subst jc;refine ways_recv_none gI (partners_nil λm x hx=> ?_);rcases Ya gs 0 m x hx with⟨_,rfl⟩|⟨iQ,jF⟩
       ·exact Zl _ _
       ·by_cases hb:x.status=.blocked
        ·unfold offersAt;simp[hb,offers m x (by omega) jF hb]
        ·exact UV hb _ _)
      refine Ok.step (aT.trans hw) ?_;rw[e0];refine A _ (w.at d) oK t K st (hd.amI rfl _) (by simp[hN]) ?_ ⟨g,z,?_,rfl,rfl,rfl⟩ (λm x iQ hx hb=> ?_) ⟨n,gI⟩
      ·rw[<- hμ];have fV:0<ic:=(by obtain⟨_,_,x,_⟩:=h.mode rfl;exact x);unfold flag;rw[SR (by omega)]
      ·rw[S9 h.pos]
      ·rw[SR (by omega)]at hx;exact offers m x iQ hx hb
    ·have hp:partners (gs.setIfInBounds 0 ph) c true=[]:=partners_nil λm x hx=>by
      rcases Ya gs 0 m x hx with⟨_,rfl⟩|⟨iQ,jF⟩
      ·exact Zl _ _
      ·have hlt:m<gs.size:=(SS.1 jF).1;rcases GS.runs (show (K m).is P c Wg Im Ss (US t m) x from h.is m x (by omega) jF)with e|⟨e,_⟩|⟨j,h',V1,V2,g1,v,z1,e⟩|⟨_,eb,e⟩
       ·exact UV (by rw[e];simp) _ _
       ·exact UV (by rw[e];simp) _ _
       ·have:=akl m (by omega) hlt;rw[e]at this;cases this
       ·unfold offersAt;simp[eb,e]
     have hw:=crowd_recv_closed (P:=P) (sl:=oK) (i:=0) h0 lr aY hp;refine Ok.step (aT.trans hw) ?_;rw[Yx,<- Xt,e0];obtain⟨hS,hinv⟩:=hd.apX rfl iL (g0:=g0) (g':=T1 g (recvd true z false)) aY (y:={g:=0,fn:=g.frame.fn,pos:=g.frame.place,act:=.recvClosed c}) ⟨rfl,rfl⟩;exact(J2 hS).2 _ (w.at d) oK _ K Im ic none none hinv rfl ⟨T1 g (recvd true z false),by rw[S9 h.pos],rfl,rfl,rfl,rfl⟩
   ·rcases hd.other (sl:=oK) (.inl hm) hi aM bL with⟨gs',w',ops,K',st',h1,h2,h3,h4,_,h5⟩|⟨p,_,_,jh⟩
    ·exact Ok.step (aT.trans h1) (ih _ (by rw[<- hμ,<- hN];exact h5) gs' w' oK _ K' st' h3 (by rw[h2,hN]) rfl (.inl ((h4 g c (λq hq=>by cases hq;rfl)).1 hm)))
    ·obtain⟨g0,h0,hs,_⟩:=hm;obtain⟨g1,z1,h1,_⟩:=jh;rw[h1]at h0;cases h0;cases hs
  ·exact A gs w sl t K st h hN hμ h1 h2 h3
theorem amW:Closed true P true (MJ P Post n0 W0)where
 step V g hs h:=by
  refine MJ.iW hs λgs w sl t K Im ic ph st hI hr ⟨g0,h0,oy,lg,iO,mP⟩=> .inl ?_;have fB:Sat V w:=by have:=hI.core.sat 0 hI.pos;rwa [kS]at this
  obtain⟨g',w',es,V',h1,h2,h3⟩:=h w fB;have aT:stepG P (0==0) g0 w=.go g' w' es:=by rw[<- h1];exact Xf lg iO mP w
  refine⟨_,_,runT_crowd_go h0 aT,h3.2 _ w' sl _ K Im ic ph st (hI.aaH h0 h2 hr) (by rw[h2.role];exact hr) ⟨g',?_,h3.1,rfl,rfl,rfl⟩⟩;rw[S9 (by simpa using hI.pos)]
 ghost V V' g hg h:=⟨h.1,λgs w sl t K Im ic ph st hI hr hm=>h.2 gs w sl t K Im ic ph st (hI.amH hg hr) (by rw[hg.role];exact hr) hm⟩
 send V g c Wg sp S v z B hr hd hs ho h1 h2 h3:=⟨hs,λgs w sl t K Im ic ph st hI bY hm=>by rw[hr]at bY;exact bY.elim⟩
 done V g c Wg hr hd h1:=⟨h1.1,λgs w sl t K Im ic ph st hI bY hm=>by rw[hr]at bY;exact bY.elim⟩
 slip V g g' c Wg hr hs h1 h2:=⟨hs,λgs w sl t K Im ic ph st hI bY hm=>by rw[hr]at bY;exact bY.elim⟩
 more _:={
  start:=λV g c Wg hr aC hc hW ou h=>⟨h.1,λgs w sl t K Im ic ph st hI bY hm=>by
   rw[hr]at bY;cases bY;exact h.2 gs w sl t _ Im 0 _ _ (hI.begin aC hc hW ou) rfl hm⟩
  EA:=λV g g' child c Wg Ss sp S hr hd hs hc hW hlen ou aT fe K7 h=>by
   refine MJ.iW hs λgs w sl t K Im ic ph st hI bY ⟨g0,h0,oy,lg,iO,mP⟩=> .inl ?_;rw[hr]at bY;cases bY;have fB:Sat V w:=(by have:=hI.core.sat 0 hI.pos;rwa [kS]at this);have lQ:stepG P (0==0) g0 w=.spawn g' child w #[]:=(by rw[<- aT w fB];exact Xf lg iO mP w);obtain⟨hh,hk⟩:=K7 _ (arH P);have bL:=ab' (P:=P) (sl:=sl) h0 lQ;have e0:Te 0 g0.frame.fn g0.frame.place #[]=#[]:=rfl;rw[e0]at bL;have hinv:=hI.EA (g':=g') (x:={g:=0,fn:=g0.frame.fn,pos:=g0.frame.place,act:=.go gs.size}) (y:={g:=gs.size,fn:=child.frame.fn,pos:=g0.frame.place,act:=.start}) rfl hd ⟨rfl,rfl⟩ ⟨rfl,rfl⟩ hlen ou hk;exact⟨_,_,bL,h.2 _ w sl _ _ Im ic _ _ hinv rfl ⟨g',by rw[Xk,if_neg (by simp;have:=hI.pos;omega),S9 hI.pos],h.1,rfl,rfl,rfl⟩⟩
  Ez:=λV g g' child c Wg Ss hr hd hs aC hc hW zn ou aT fe aY h=>by
   refine MJ.iW hs λgs w sl t K Im ic ph st hI bY ⟨g0,h0,oy,lg,iO,mP⟩=> .inl ?_;rw[hr]at bY;cases bY;have fB:Sat V w:=(by have:=hI.core.sat 0 hI.pos;rwa [kS]at this);have lQ:stepG P (0==0) g0 w=.spawn g' child w #[]:=(by rw[<- aT w fB];exact Xf lg iO mP w);obtain⟨n,hk⟩:=aY;have bL:=ab' (P:=P) (sl:=sl) h0 lQ;have e0:Te 0 g0.frame.fn g0.frame.place #[]=#[]:=rfl;rw[e0]at bL;have hinv:=hI.Ez (g':=g') (x:={g:=0,fn:=g0.frame.fn,pos:=g0.frame.place,act:=.go gs.size}) (y:={g:=gs.size,fn:=child.frame.fn,pos:=g0.frame.place,act:=.start}) rfl hd ⟨rfl,rfl⟩ ⟨rfl,rfl⟩ hW ou hk;exact⟨_,_,bL,h.2 _ w sl _ _ V.ab gs.size _ _ hinv rfl ⟨g',by rw[Xk,if_neg (by simp;have:=hI.pos;omega),S9 hI.pos],h.1,rfl,rfl,rfl⟩⟩
  recv:=λV g c Wg Ss z hr hd hs ho aT j1 j2=>MJ.recv hr hd hs aT j1 j2}
structure Left (n0:Nat)(W0 w:Tq):Prop where
 tape:w.tape=W0.tape
 os:w.os=W0.os
 out:w.output=W0.output
 old:∀b,b<n0->w.heap[b]?=W0.heap[b]?
 size:n0<=w.heap.size
theorem Inv.Jj{V:View}{gs:Array SH}{w:Tq}{t:Ui}{K:Nat->GS}{Im:cC}{ic:Nat}{st:Option eC}(h:Inv P n0 W0 V gs w t K Im ic none st){v:SO}(hp:Post v w)(w0:Tq)(Da:Option (Nat×Nat)):W1 P Post (crowd gs w0 Da) (.done v) w t:=by
 obtain⟨dn,gS,mR,aT⟩:=h.out;have lQ:st=none:=aT;refine⟨v,rfl,hp,gS.ti.nr,?_,⟨?_,rfl⟩,?_⟩
 ·intro i g hg oy ⟨x,hx,hm,hk⟩;rcases mR i x hx hm with⟨q,z,h1,h2,h3⟩|⟨h1,h2⟩|⟨_,h1,_⟩
  ·rcases h3 with rfl|h3
   ·exfalso;simp only[WA,h1,UN,Tm]at hg;omega
   ·exact⟨q,by simp[WA,h1,h2],h3⟩
  ·rcases hk with hk|hk
   ·exact absurd h1 hk
   ·exact absurd hk h2
  ·rw[lQ]at h1;cases h1
 ·intro g hg;obtain⟨i,hi⟩:=UP.1 hg;rw[Ul]at hi;have cG:gs[1+i]?=some g:=by simpa[crowd]using hi
  obtain⟨q,_,hq⟩:=dn (1+i) g (by omega) cG;exact⟨q,hq.leaves⟩
 ·intro i g hi eY;obtain⟨q,_,hq⟩:=dn i g (by omega) hi;exact⟨q,hq.hears _⟩
theorem MJ.end{V:View}{g:SH}(hg:g.status=.running)(hr:V.role=.plain)
  (h:∀w,Sat V w->Left n0 W0 w->(∀b,b<n0->V.own b=none)->∃v w' es V',stepG P true g w=.ended (.done v) w' es/\dj V w V' w' es/\Post v w'):MJ P Post n0 W0 V g:=by
 refine MJ.iW hg λgs w sl t K Im ic ph st hI bY ⟨g0,h0,oy,lg,iO,mP⟩=> .inr ?_;have gS:=hI.out.2.1;have fB:Sat V w:=by have:=hI.core.sat 0 hI.pos;rwa [kS]at this
 obtain⟨v,w',es,V',h1,h2,h3⟩:=h w fB ⟨gS.tape,gS.os,gS.out,gS.old,gS.n0⟩ (λb hb=>by have:=gS.jm 0 hI.pos b hb;rwa [kS]at this);have aT:stepG P (0==0) g0 w=.ended (.done v) w' es:=by rw[<- h1];exact Xf lg iO mP w
 refine⟨_,w',_,runT_crowd_ended h0 aT,λw0 Da=> ?_⟩;have gJ:ph=none:=by rw[hr]at bY;exact bY
 subst gJ;have hinv:=hI.aaH (g':=g0) h0 h2 bY;have sT:=hinv.Jj (Post:=Post) h3 w0 Da;obtain⟨v',e,hp,hn,hh,hl,hd⟩:=sT;refine⟨v',e,hp,hn,hh,⟨?_,rfl⟩,?_⟩
 ·intro g J6;obtain⟨i,hi⟩:=UP.1 J6;rw[Ul]at hi;have cG:gs[1+i]?=some g:=by simpa[crowd]using hi
  obtain⟨q,_,hq⟩:=hI.out.1 (1+i) g (by omega) cG;exact⟨q,hq.leaves⟩
 ·intro i g hi eY;obtain⟨q,_,hq⟩:=hI.out.1 i g (by omega) hi;refine⟨q,?_⟩;have:(t++Te 0 g0.frame.fn g0.frame.place es).deaf i (t++Te 0 g0.frame.fn g0.frame.place es).size=US t i:=
   atA t (g:=i) (g':=0) (by omega) _ λop au=>by obtain⟨e,_,rfl⟩:=TK au;rfl
  rw[this];exact hq.hears _
theorem Inv.init(W:Tq){V:View}(ho:V.own=λ_=>none)(hd:V.deaf=0)(hs:Sat V W)(g:SH):Inv P W.heap.size W V #[g] W #[] (λ_=> .gone 0) V.ab 0 none none:=by
 have fq:∀i,i<(1:Nat)->bD V V.ab (λ_=> .gone 0) i=V:=λi hi=>by
  obtain rfl:i=0:=by omega
  simp[bD]
 refine Inv.mk' (by simp) rfl (by rw[hd];rfl) (λi x hi hx=> ?_) ⟨λi hi=>by rw[fq i hi];exact hs,λi j hi hj kq=> ?_,?_,rfl,rfl,rfl,λ_ _=>rfl,λi hi b _=>by rw[fq i hi,ho],SU _⟩ ?_ rfl
 ·exfalso;have:=(SS.1 hx).1;simp at this;omega
 ·simp at hi hj;omega
 ·refine⟨λsaid hr=> ?_,by simp,by simp,by simp,λi _ l _ idx a ha=> ?_,λi _ l _ idx a ha=> ?_,λidx a ha=> ?_⟩
  ·obtain⟨i,j,_,⟨a,b,ha,_⟩,_⟩:=hr;obtain⟨op,au,_⟩:=UU ha;simp at au
  ·obtain⟨op,au,_⟩:=UU ha;simp at au
  ·obtain⟨op,au,_⟩:=UU ha;simp at au
  ·obtain⟨op,au,_⟩:=UU ha;simp at au
 ·intro idx a ha _;obtain⟨op,au,_⟩:=UU ha;simp at au
theorem ai4{f:TN}{args:Array SO}{W:Tq}{V:View}{R:Out->View->Prop}(hi:P.inits.idxOf? f=none)(ho:V.own=λ_=>none)(hd:V.deaf=0)(bY:V.role=.plain)(hs:Sat V W)(h:Body true P f args .normal V R)
  (hR:∀o V',R o V'->V'.role=.plain/\∃v,o=.ret v/\∀w,Sat V' w->Left W.heap.size W w->Post v w):
  ∃M last o w' t',runNT P (M+1) (solo (G (Frame.enter P f args .normal) []) W) #[]=(.ended o w',t')/\runN P M (solo (G (Frame.enter P f args .normal) []) W)=.next last/\step P last=.ended o w'/\W1 P Post last o w' t':=by
 have hJ:MJ P Post W.heap.size W V (G (Frame.enter P f args .normal) []):=by
  refine h true _ amW [] λo V' fr r hl=> ?_;obtain⟨hr,v,rfl,hp⟩:=hR _ _ r;obtain⟨rfl,bz,hk,fn,hf,hm,gA⟩:=hl;refine MJ.end rfl hr λw hw zx hold=> ?_;obtain⟨es,w',aP,h1,h2,h3⟩:=gA.runs hw;rcases h3 with⟨x,h3,rfl,rfl⟩|⟨_,_,hx⟩
  ·refine⟨x,w',seen P fr.fn es,aP,by simp[G,stepG,unwind,doReturn,hm,bz,hk,hf,h3,h2,TZ,hi],h1.seen P fr.fn,?_⟩;refine hp w' h1.sat ⟨h1.tape.trans zx.tape,h1.os.trans zx.os,h1.output.trans zx.out,λb hb=> ?_,UB zx.size h1.size⟩;rw[h1.frame b (Td hb zx.size) (hold b hb)];exact zx.old b hb
  ·exact hx.elim
 exact hJ.2 #[_] W none #[] _ _ _ none none (Inv.init W ho hd hs _) (by rw[bY];rfl) ⟨_,rfl,rfl,rfl,rfl,rfl⟩
end
def gB (P:SK)(main:Bool)(g:SH):SH:=match stepG P main g default with
 |.go g' _ _=>g'
 |_=>g
def zY (P:SK)(main:Bool)(g:SH):Array Uq:=match stepG P main g default with
 |.go _ _ es=>es
 |_=>#[]
def cI (P:SK)(main:Bool):Nat->SH->SH
 |0,g=>g
 |n+1,g=>cI P main n (gB P main g)
def fO (P:SK)(main:Bool)(w:Tq):Nat->SH->List ZC
 |0,_=>[]
 |n+1,g=>stepG P main g w::fO P main w n (gB P main g)
def fG (P:SK)(main:Bool)(w:Tq):Nat->SH->List ZC
 |0,_=>[]
 |n+1,g=> .go (gB P main g) w (zY P main g)::fG P main w n (gB P main g)
def bP (g:SH):Bool:=match g.status with
 |.running=>true
 |_=>false
theorem bP.out{g:SH}(h:bP g=true):g.status=.running:=by
 unfold bP at h;split at h
 ·assumption
 ·cases h
def iS (P:SK)(main:Bool):Nat->SH->Bool
 |0,_=>true
 |n+1,g=>bP g&&(zY P main g).all WH&&iS P main n (gB P main g)
def oH (P:SK)(main:Bool):Nat->SH->Bool
 |0,_=>true
 |n+1,g=>bP g&&(zY P main g).isEmpty&&oH P main n (gB P main g)
def jS (P:SK)(main:Bool):Nat->Nat->SH->Nat
 |0,d,_=>d
 |n+1,d,g=>jS P main n (deafBehind d (zY P main g)) (gB P main g)
section
variable {P:SK}
theorem L7{n:Nat}{main:Bool}{g:SH}(h:iS P main (n+1) g=true):g.status=.running/\(∀e∈zY P main g,WH e=true)/\iS P main n (gB P main g)=true:=by
 simp only[iS,Ti]at h;exact⟨bP.out h.1.1,λe he=>UE.1 h.1.2 e he,h.2⟩
theorem wD{Stop:Nat->SH->Prop}:∀(n d:Nat)(g:SH),(∀w,fO P false w n g=fG P false w n g)->iS P false n g=true->(∃m,cU P Stop m (jS P false n d g) (cI P false n g))->∃m,cU P Stop m d g
 |0,d,g,_,_,hs=>hs
 |n+1,d,g,h,hm,hs=>by
  obtain⟨h1,h2,h3⟩:=L7 hm;obtain⟨m,hm⟩:=wD n _ (gB P false g) (λw=>(Vw (h w)).2) h3 hs;exact⟨m+1,.inr ⟨h1,_,_,h2,λw=>(Vw (h w)).1,hm⟩⟩
theorem acl{Wg:Nat}{Stop:Nat->SH->Prop}:∀(n d:Nat)(g:SH),(∀w,fO P false w n g=fG P false w n g)->iS P false n g=true->(∃m,ii P Wg Stop m (jS P false n d g) (cI P false n g))->∃m,ii P Wg Stop m d g
 |0,d,g,_,_,hs=>hs
 |n+1,d,g,h,hm,hs=>by
  obtain⟨h1,h2,h3⟩:=L7 hm;obtain⟨m,hm⟩:=acl n _ (gB P false g) (λw=>(Vw (h w)).2) h3 hs;exact⟨m+1,.inr ⟨h1,_,_,h2,λw _ _ _=>(Vw (h w)).1,hm⟩⟩
theorem acm{Wg:Nat}{Stop:Nat->SH->Prop}{d:Nat}{g g':SH}(hr:g.status=.running)(h:∀w x y,WgAt P Wg w x y->stepG P false g w=.go g' w #[]) (hs:∃m,ii P Wg Stop m d g'):∃m,ii P Wg Stop m d g:=by
 obtain⟨m,hm⟩:=hs;exact⟨m+1,.inr ⟨hr,g',#[],by simp,h,by simpa[deafBehind]using hm⟩⟩
theorem GR:∀(n d:Nat)(g:SH),(∀w,fO P false w n g=fG P false w n g)->iS P false n g=true->(∃q,Y5 P q (jS P false n d g) (cI P false n g))->∃q,Y5 P q d g
 |0,d,g,_,_,hs=>hs
 |n+1,d,g,h,hm,hs=>by
  obtain⟨h1,h2,h3⟩:=L7 hm;obtain⟨m,hm⟩:=GR n _ (gB P false g) (λw=>(Vw (h w)).2) h3 hs;exact⟨m+1,.inr ⟨h1,_,_,h2,λw=>(Vw (h w)).1,hm⟩⟩
theorem ML{d:Nat}{g:SH}(h:g.status=.finished)(hd:d=0):∃q,Y5 P q d g:=⟨0,h,hd⟩
theorem aoT{n:Nat}{main:Bool}{g:SH}(h:oH P main (n+1) g=true):g.status=.running/\zY P main g=#[]/\oH P main n (gB P main g)=true:=by
 simp only[oH,Ti]at h;exact⟨bP.out h.1.1,by simpa using h.1.2,h.2⟩
theorem tn{lv main:Bool}{J:View->SH->Prop}(C:Closed lv P main J){V:View}:∀(n:Nat)(g:SH),(∀w,fO P main w n g=fG P main w n g)->oH P main n g=true->J V (cI P main n g)->J V g
 |0,g,_,_,hs=>hs
 |n+1,g,h,hm,hs=>by
  obtain⟨h1,h2,h3⟩:=aoT hm;refine C.idle h1 (λw=> ?_) (tn C n (gB P main g) (λw=>(Vw (h w)).2) h3 hs);rw[(Vw (h w)).1,h2]
theorem Closed.mute{lv main:Bool}{J:View->SH->Prop}(C:Closed lv P main J){V:View}{g g':SH}{m:Mark}(hm:m=.disable\/m=.enable)(hr:g.status=.running)(h:∀w,stepG P main g w=.go g' w #[⟨.mark m,false,true⟩]) (hJ:J {V with deaf:=deafBehind V.deaf #[⟨.mark m,false,true⟩]} g'):J V g:=by
 refine C.step _ _ hr λw hw=> ?_;have hs:=apK (P:=P) (V:=V) (k:=(.pure ():Sem Unit)) (K:=λ_ V'=>V'={V with deaf:=deafBehind V.deaf #[⟨.mark m,false,true⟩]}) (Kp:=λ_ _=>False) hm (cM rfl);obtain⟨es,w',V',k1,k2,k3⟩:=hs.runs hw;rcases k3 with⟨x,k3,rfl⟩|⟨_,_,hx⟩
 ·have e1:Yh () w=Yh x w':=k3;have e2:es=#[⟨.mark m,false,true⟩]:=k2.symm;cases e1;subst e2;refine⟨g',w,_,_,h w,?_,hJ⟩;rwa [tx (by rcases hm with rfl|rfl<;>simp)]at k1
 ·exact hx.elim
def ready (g:SH):Option Tx:=match g with
 |{frame:={fn:=_,tmps,todo:=.inRegion ops (i::_)::_,defers:=_,mode:=.run,kind,roundOf:=none},callers:=_,status:=.running,dying:=none,offers:=none}=>
  match ops[i]?with
  |some o=>if Tc o (yielded ops tmps)&& !(kind== .early)then some o else none
  |none=>none
 |_=>none
def fin (g:SH)(v:SO):SH:={g with frame:=g.frame.finish v}
theorem ready.out{g:SH}{o:Tx}(h:ready g=some o):∃(b:T8)(a:Act)(ops:Array Tx)(i:Nat)(rest:List Nat)(k:List WW)(cs:List T8),g=G (b.at a (.inRegion ops (i::rest)::k)) cs/\ops[i]?=some o/\Tc o (yielded ops a.tmps)=true/\b.kind≠ .early/\a.eval=g.frame.eval/\
  (∀v,G (b.at (a.put o.dst v) (.inRegion ops rest::k)) cs=fin g v)/\b.fn=g.frame.fn/\g.status=.running:=by
 unfold ready at h;split at h
 ·rename_i fn tmps ops i rest k defers kind cs;split at h
  ·rename_i o' ho;split at h
   ·rename_i hw;cases h;simp only[Ti,TV,beq_eq_false_iff_ne,ne_eq]at hw;refine⟨{(default:T8)with fn,kind},⟨tmps,defers⟩,ops,i,rest,k,cs,rfl,ho,hw.1,hw.2,?_,λv=> ?_,rfl,rfl⟩
    ·funext x;cases x<;>rfl
    ·unfold fin;have:=Frame.finish_at {(default:T8)with fn,kind} ⟨tmps,defers⟩ ops i rest k v;rw[ho]at this;simp only[Frame.at,Option.bind_some]at this⊢;rw[this];rfl
   ·cases h
  ·cases h
 ·cases h
def cy (g:SH):Option (TN×Array SO):=match ready g with
 |some {op:=.call {callee:=.value (.func f),args, .. }, .. }=>some (f,args.map g.frame.eval)
 |_=>none
theorem cy.out{g:SH}{f:TN}{vs:Array SO}(h:cy g=some (f,vs)):∃o aG l8,ready g=some o/\o.op=.call {callee:=.value (.func f),args:=aG,argTypes:=l8}/\aG.map g.frame.eval=vs:=by
 unfold cy at h;split at h
 ·rename_i f' aG l8 dst ty pos af gd ho;cases h;exact⟨_,_,_,ho,rfl,rfl⟩
 ·cases h
structure Ext (P:SK)(f:TN)(e:Array SO->Sem SO):Prop where
 fn : ∃ fn, P.funcs[f]? = some fn /\ (fn.name == "runtime.NumGoroutine") = false /\ fn.body.isNone = true /\ Extern.findNext fn = none /\ Extern.find fn = some e
variable {main:Bool}{g:SH}{f:TN}{w:Tq}
theorem acp{v d:Int}{k:TU}{ad:U4}(h:cy g=some (f,#[.pointer (some ad),.int k d])) (he:Ext P f (XU (atH .add) k true)) (hc:w.cell? ad=some (.int k v)) (hz:w.frozen? ad=false):
  stepG P main g w=.go (fin g (.int k (k.wrap (v+d)))) (w.setCell ad (.int k (k.wrap (v+d)))) #[⟨.cell ad,false,true⟩,⟨.cell ad,true,true⟩]:=by
 obtain⟨o,aG,l8,h1,h2,h3⟩:=cy.out h;obtain⟨b,a,ops,i,rest,kk,cs,e,q1,q2,q3,q4,q5,q6,_⟩:=ready.out h1;obtain⟨fn,f1,f2,f3,f4,f5⟩:=he.fn;rw[<- q4]at h3;rw[<- q5];refine VL (congrArg (λx=>stepG P main x w) e) ?_;exact ZD q1 q2 q3 h2 f1 f2 f3 f4 f5 (by rw[h3];exact run_add_entry hc hz) (by rw[h3,events_add_entry hc hz];rfl) (sync_rw ad)
theorem M4{v:Int}{k:TU}{ad:U4}(h:cy g=some (f,#[.pointer (some ad)])) (he:Ext P f (X5 (.int k))) (hc:w.cell? ad=some (.int k v)):
  stepG P main g w=.go (fin g (.int k v)) w #[⟨.cell ad,false,true⟩]:=by
 obtain⟨o,aG,l8,h1,h2,h3⟩:=cy.out h;obtain⟨b,a,ops,i,rest,kk,cs,e,q1,q2,q3,q4,q5,q6,_⟩:=ready.out h1;obtain⟨fn,f1,f2,f3,f4,f5⟩:=he.fn;rw[<- q4]at h3;rw[<- q5];refine VL (congrArg (λx=>stepG P main x w) e) ?_;obtain⟨x,rfl⟩:∃x,aG=#[x]:=by
  have:aG.size=1:=by have:=congrArg ad_ h3;simpa using this
  exact Array.size_eq_one_iff.1 this
 exact stepG_load_atomic q1 q2 q3 h2 f1 f2 f3 f4 k f5 (by simpa using h3) hc
theorem aqj{v:Int}{u:SO}{k:TU}{ad:U4}(h:cy g=some (f,#[.pointer (some ad),.int k v])) (he:Ext P f XV) (hc:w.cell? ad=some u) (hz:w.frozen? ad=false):
  stepG P main g w=.go (fin g (.tuple #[])) (w.setCell ad (.int k v)) #[⟨.cell ad,true,true⟩]:=by
 obtain⟨o,aG,l8,h1,h2,h3⟩:=cy.out h;obtain⟨b,a,ops,i,rest,kk,cs,e,q1,q2,q3,q4,q5,q6,_⟩:=ready.out h1;obtain⟨fn,f1,f2,f3,f4,f5⟩:=he.fn;rw[<- q4]at h3;rw[<- q5];refine VL (congrArg (λx=>stepG P main x w) e) ?_;obtain⟨x,y,rfl⟩:∃x y,aG=#[x,y]:=by
  have:aG.toList.length=2:=by have:=congrArg ad_ h3;simpa using this
  obtain⟨l⟩:=aG
  match l,this with
  |[x,y],_=>exact⟨x,y,rfl⟩
 have vJ:a.eval x=.pointer (some ad)/\a.eval y=.int k v:=by simpa using h3
 exact stepG_store_atomic q1 q2 q3 h2 f1 f2 f3 f4 f5 vJ.1 vJ.2 hc hz
theorem aqc{v n:Int}{k:TU}{ad:U4}(h:cy g=some (f,#[.pointer (some ad),.int k v,.int k n])) (he:Ext P f (WX (.int k))) (hc:w.cell? ad=some (.int k v)) (hz:w.frozen? ad=false):
  stepG P main g w=.go (fin g (.bool true)) (w.setCell ad (.int k n)) #[⟨.cell ad,false,true⟩,⟨.cell ad,true,true⟩]:=by
 obtain⟨o,aG,l8,h1,h2,h3⟩:=cy.out h;obtain⟨b,a,ops,i,rest,kk,cs,e,q1,q2,q3,q4,q5,q6,_⟩:=ready.out h1;obtain⟨fn,f1,f2,f3,f4,f5⟩:=he.fn;rw[<- q4]at h3;rw[<- q5];refine VL (congrArg (λx=>stepG P main x w) e) ?_;exact ZD q1 q2 q3 h2 f1 f2 f3 f4 f5 (by rw[h3,Z4];exact run_cas_hit_entry hc hz) (by rw[h3,Z4,events_cas_hit_entry hc hz];rfl) (sync_rw ad)
theorem aqd{v old n:Int}{k:TU}{ad:U4}(h:cy g=some (f,#[.pointer (some ad),.int k old,.int k n])) (he:Ext P f (WX (.int k))) (hc:w.cell? ad=some (.int k v)) (hz:w.frozen? ad=false) (aC:¬v=old):
  stepG P main g w=.go (fin g (.bool false)) w #[⟨.cell ad,false,true⟩]:=by
 obtain⟨o,aG,l8,h1,h2,h3⟩:=cy.out h;obtain⟨b,a,ops,i,rest,kk,cs,e,q1,q2,q3,q4,q5,q6,_⟩:=ready.out h1;obtain⟨fn,f1,f2,f3,f4,f5⟩:=he.fn;rw[<- q4]at h3;rw[<- q5];refine VL (congrArg (λx=>stepG P main x w) e) ?_;exact ZD q1 q2 q3 h2 f1 f2 f3 f4 f5 (by rw[h3,Z4];exact run_cas_miss_entry hc hz aC) (by rw[h3,Z4,events_cas_miss_entry hc hz aC];rfl) (sync_r ad)
theorem aqh{n:Int}{x y:SO}{ad:U4}(h:cy g=some (f,#[.pointer (some ad),x,y])) (he:Ext P f XT) (hc:w.cell? ad=some (.int .u32 n)) (hz:w.frozen? ad=false):
  stepG P main g w=.go (fin g (.tuple #[])) (w.setCell ad (.int .u32 (al_.wrap (n+1)))) (semEvents ad):=by
 obtain⟨o,aG,l8,h1,h2,h3⟩:=cy.out h;obtain⟨b,a,ops,i,rest,kk,cs,e,q1,q2,q3,q4,q5,q6,_⟩:=ready.out h1;obtain⟨fn,f1,f2,f3,f4,f5⟩:=he.fn;rw[<- q4]at h3;rw[<- q5];refine VL (congrArg (λx=>stepG P main x w) e) ?_;exact stepG_semrelease q1 q2 q3 h2 f1 f2 f3 f4 f5 (by rw[h3];rfl) hc hz
theorem aqg{n:Int}{x:SO}{ad:U4}(h:cy g=some (f,#[.pointer (some ad),x])) (he:Ext P f WG) (hc:w.cell? ad=some (.int .u32 n)) (hn:n≠0) (hz:w.frozen? ad=false):
  stepG P main g w=.go (fin g (.tuple #[])) (w.setCell ad (.int .u32 (n-1))) (semEvents ad):=by
 obtain⟨o,aG,l8,h1,h2,h3⟩:=cy.out h;obtain⟨b,a,ops,i,rest,kk,cs,e,q1,q2,q3,q4,q5,q6,_⟩:=ready.out h1;obtain⟨fn,f1,f2,f3,f4,f5⟩:=he.fn;rw[<- q4]at h3;rw[<- q5];refine VL (congrArg (λx=>stepG P main x w) e) ?_;exact stepG_semacquire q1 q2 q3 h2 f1 f2 f3 f4 f5 (by rw[h3];rfl) hc hn hz
theorem aqi{x:SO}{ad:U4}(h:cy g=some (f,#[.pointer (some ad),x])) (he:Ext P f WG) (hc:w.cell? ad=some (.int .u32 0)):
  stepG P main g w=.go {g with status:=.blocked} w #[]:=by
 obtain⟨o,aG,l8,h1,h2,h3⟩:=cy.out h;obtain⟨b,a,ops,i,rest,kk,cs,e,q1,q2,q3,q4,q5,q6,_⟩:=ready.out h1;obtain⟨fn,f1,f2,f3,f4,f5⟩:=he.fn;rw[<- q4]at h3;rw[e];exact stepG_semacquire_wait q1 q2 h2 f1 f2 f3 f4 f5 (by rw[h3];rfl) hc
theorem G9{ad:U4}(mk:U4->Mark)(hm:∀ad g,mk ad≠ .extern g)(h:cy g=some (f,#[.pointer (some ad)])) (he:Ext P f (VK mk)):
  stepG P main g w=.go (fin g (.tuple #[])) w #[⟨.mark (mk ad),false,true⟩]:=by
 obtain⟨o,aG,l8,h1,h2,h3⟩:=cy.out h;obtain⟨b,a,ops,i,rest,kk,cs,e,q1,q2,q3,q4,q5,q6,_⟩:=ready.out h1;obtain⟨fn,f1,f2,f3,f4,f5⟩:=he.fn;rw[<- q4]at h3;rw[<- q5];refine VL (congrArg (λx=>stepG P main x w) e) ?_;exact stepG_markAt mk hm q1 q2 q3 h2 f1 f2 f3 f4 f5 (by rw[h3];rfl)
def oV (g:SH):Option (TypeId×TypeId×SO):=match ready g with
 |some {op:=.convert s d x, .. }=>some (s,d,g.frame.eval x)
 |_=>none
theorem G_{src dst t:TypeId}{ad:U4}{v:SO}(h:oV g=some (src,dst,.pointer (some ad)))(hs:P.underlying src=some (.pointer t))(hd:P.underlying dst=some .unsafePointer)(aU:(P.info? t).map (λi=>decide (i.size=0))=some false)(hc:w.cell? ad=some v):
  stepG P main g w=.go (fin g (.pointer (some ad))) w #[]:=by
 obtain⟨o,x,h1,h2,h3⟩:∃o x,ready g=some o/\o.op=.convert src dst x/\g.frame.eval x=.pointer (some ad):=by
  unfold oV at h;split at h
  ·rename_i s d x _ _ _ _ ho;simp only[Tm,U0]at h;obtain⟨rfl,rfl,h⟩:=h;exact⟨_,x,ho,rfl,h⟩
  ·cases h
 obtain⟨b,a,ops,i,rest,kk,cs,e,q1,q2,q3,q4,q5,q6,_⟩:=ready.out h1;rw[<- q4]at h3;rw[<- q5];refine VL (congrArg (λx=>stepG P main x w) e) ?_;have hr:(execOp a.eval o).run P w=.ok (.value (.pointer (some ad))) w:=by
  unfold execOp;simp only[h2,h3];simp[run_convert_to_unsafe hs hd aU hc]
 have cr:(execOp a.eval o).events P w #[]=#[]:=by
  unfold execOp;simp only[h2,h3];simp[events_convert_to_unsafe hs hd aU hc]
 rw[atz q1 q2 q3 hr];unfold listed;rw[cr,ab_]
end
open Go.Proofs
section
variable {P:SK}
theorem MZ{Stop:Nat->SH->Prop}{d:Nat}{g g':SH}{es:Array Uq}(hr:g.status=.running)(hm:∀e∈es,WH e=true)(h:∀w,stepG P false g w=.go g' w es)(hs:∃m,cU P Stop m (deafBehind d es) g'):∃m,cU P Stop m d g:=by
 obtain⟨m,hs⟩:=hs;exact⟨m+1,.inr ⟨hr,g',es,hm,h,hs⟩⟩
theorem G8{main:Bool}{g:SH}{f:TN}{w:Tq}{m:Mark}(hm:∀g,m≠ .extern g)(h:cy g=some (f,#[])) (he:Ext P f (λ_=>do af' m;pure W8)):stepG P main g w=.go (fin g (.tuple #[])) w #[⟨.mark m,false,true⟩]:=by
 obtain⟨o,xs,l8,h1,h2,h3⟩:=cy.out h;obtain⟨b,a,ops,i,rest,kk,cs,e,q1,q2,q3,q4,q5,q6,_⟩:=ready.out h1;obtain⟨fn,f1,f2,f3,f4,f5⟩:=he.fn;rw[<- q4]at h3;rw[<- q5];refine VL (congrArg (λx=>stepG P main x w) e) ?_;exact stepG_mark0 m hm q1 q2 q3 h2 f1 f2 f3 f4 f5
theorem acr{main:Bool}{g:SH}{f:TN}{w:Tq}{v:SO}{vs:Array SO}(h:cy g=some (f,vs))(he:Ext P f (λ_=>pure v)):stepG P main g w=.go (fin g v) w #[]:=by
 obtain⟨o,xs,l8,h1,h2,h3⟩:=cy.out h;obtain⟨b,a,ops,i,rest,kk,cs,e,q1,q2,q3,q4,q5,q6,_⟩:=ready.out h1;obtain⟨fn,f1,f2,f3,f4,f5⟩:=he.fn;rw[<- q5];refine VL (congrArg (λx=>stepG P main x w) e) ?_;exact stepG_entry_pure v q1 q2 q3 h2 f1 f2 f3 f4 f5
theorem WgAt.st{Wg:Nat}{w:Tq}{st sm:Int}(h:WgAt P Wg w st sm):w.cell? ⟨Wg,0,none⟩=some (.int .u64 st)/\w.cell? ⟨Wg,1,none⟩=some (.int .u32 sm)/\w.frozen? ⟨Wg,0,none⟩=false/\w.frozen? ⟨Wg,1,none⟩=false:=by
 unfold WgAt wgBlock at h;refine⟨?_,?_,?_,?_⟩<;>simp[Uy,ZT,h]
theorem L8{m:Mark}(hm:m=.disable\/m=.enable):∀e∈(#[⟨.mark m,false,true⟩]:Array Uq),WH e=true:=by
 intro e he;simp only[TJ,SL,S4,or_false]at he;subst he;rcases hm with rfl|rfl<;>rfl
end
set_option maxRecDepth 100000
theorem agB:Ext SC 110 (VK .releaseMerge):=⟨⟨Tryz.f110,by kernel_rfl,by kernel_rfl,by kernel_rfl,by kernel_rfl,by kernel_rfl⟩⟩
theorem II:Ext SC 111 (λ_=>do af' .disable;pure W8):=⟨⟨Tryz.f111,by kernel_rfl,by kernel_rfl,by kernel_rfl,by kernel_rfl,by kernel_rfl⟩⟩
theorem agC:Ext SC 112 (λ_=>do af' .enable;pure W8):=⟨⟨Tryz.f112,by kernel_rfl,by kernel_rfl,by kernel_rfl,by kernel_rfl,by kernel_rfl⟩⟩
theorem Pg:Ext SC 113 (λ_=>pure (.bool false)):=⟨⟨Tryz.f113,by kernel_rfl,by kernel_rfl,by kernel_rfl,by kernel_rfl,by kernel_rfl⟩⟩
theorem agD:Ext SC 118 (VK .read):=⟨⟨Tryz.f118,by kernel_rfl,by kernel_rfl,by kernel_rfl,by kernel_rfl,by kernel_rfl⟩⟩
theorem agE:Ext SC 122 XT:=⟨⟨Tryz.f122,by kernel_rfl,by kernel_rfl,by kernel_rfl,by kernel_rfl,by kernel_rfl⟩⟩
theorem agF:Ext SC 123 (VK .acquire):=⟨⟨Tryz.f123,by kernel_rfl,by kernel_rfl,by kernel_rfl,by kernel_rfl,by kernel_rfl⟩⟩
theorem agG:Ext SC 126 (VK .write):=⟨⟨Tryz.f126,by kernel_rfl,by kernel_rfl,by kernel_rfl,by kernel_rfl,by kernel_rfl⟩⟩
theorem Ph:Ext SC 127 WG:=⟨⟨Tryz.f127,by kernel_rfl,by kernel_rfl,by kernel_rfl,by kernel_rfl,by kernel_rfl⟩⟩
theorem Pj:Ext SC 134 (XU (atH .add) .u64 true):=⟨⟨Tryz.f134,by kernel_rfl,by kernel_rfl,by kernel_rfl,by kernel_rfl,by kernel_rfl⟩⟩
theorem IJ:Ext SC 135 (X5 (.int .u64)):=⟨⟨Tryz.f135,by kernel_rfl,by kernel_rfl,by kernel_rfl,by kernel_rfl,by kernel_rfl⟩⟩
theorem agH:Ext SC 136 XV:=⟨⟨Tryz.f136,by kernel_rfl,by kernel_rfl,by kernel_rfl,by kernel_rfl,by kernel_rfl⟩⟩
theorem Pk:Ext SC 137 (WX (.int .u64)):=⟨⟨Tryz.f137,by kernel_rfl,by kernel_rfl,by kernel_rfl,by kernel_rfl,by kernel_rfl⟩⟩
theorem ac8:SC.underlying 158=some (.pointer 147):=by kernel_rfl
theorem Hg:SC.underlying 160=some .unsafePointer:=by kernel_rfl
theorem i182:(SC.info? 147).map (λi=>decide (i.size=0))=some false:=by kernel_rfl
noncomputable def apa:T8:={(default:T8)with fn:=184,defers:=[],mode:=.panicking [goexitEntry]}
noncomputable def ao6 (fn:TN)(tmps:Array SO)(todo:List WW):T8:={fn,tmps,todo,defers:=[],mode:=.returning,kind:=.deferred,roundOf:=none}
noncomputable def pW (Wg o:Nat):SO:=.pointer (some ⟨Wg,o,none⟩)
section
variable (Wg:Nat)(tmps:Array SO)(todo:List WW)
noncomputable def d0:SH:=G (Frame.enter SC 98 #[pW Wg 0] .deferred) [ao6 97 tmps todo,apa]
noncomputable def d14:SH:=cI SC false 14 (d0 Wg tmps todo)
noncomputable def d15:SH:=fin (d14 Wg tmps todo) (pW Wg 0)
noncomputable def d16:SH:=fin (d15 Wg tmps todo) (.tuple #[])
noncomputable def d19:SH:=cI SC false 3 (d16 Wg tmps todo)
noncomputable def d20:SH:=fin (d19 Wg tmps todo) (.tuple #[])
noncomputable def d31:SH:=cI SC false 11 (d20 Wg tmps todo)
noncomputable def d32:SH:=fin (d31 Wg tmps todo) (.bool false)
noncomputable def d54:SH:=cI SC false 22 (d32 Wg tmps todo)
noncomputable def d55 (s:Int):SH:=fin (d54 Wg tmps todo) (.int .u64 s)
noncomputable def d158:SH:=cI SC false 103 (d55 Wg tmps todo 1)
noncomputable def d159:SH:=fin (d158 Wg tmps todo) (.int .u64 1)
noncomputable def d179:SH:=cI SC false 20 (d159 Wg tmps todo)
noncomputable def d180:SH:=fin (d179 Wg tmps todo) (.tuple #[])
noncomputable def Bg:SH:=cI SC false 27 (d180 Wg tmps todo)
noncomputable def yU:SH:=fin (Bg Wg tmps todo) (.tuple #[])
set_option maxRecDepth 100000
variable (w:Tq)
theorem x0:(fO SC false w 14 (d0 Wg tmps todo),oH SC false 14 (d0 Wg tmps todo),bP (d14 Wg tmps todo),bP (d15 Wg tmps todo))=(fG SC false w 14 (d0 Wg tmps todo),true,true,true):=by kernel_rfl
theorem x14:oV (d14 Wg tmps todo)=some (158,160,pW Wg 0):=by kernel_rfl
theorem x15:cy (d15 Wg tmps todo)=some (110,#[pW Wg 0]):=by kernel_rfl
theorem Hv:(fO SC false w 3 (d16 Wg tmps todo),iS SC false 3 (d16 Wg tmps todo),bP (d19 Wg tmps todo),jS SC false 3 0 (d16 Wg tmps todo))=(fG SC false w 3 (d16 Wg tmps todo),true,true,0):=by kernel_rfl
theorem x19:cy (d19 Wg tmps todo)=some (111,#[]):=by kernel_rfl
theorem Hx:(fO SC false w 11 (d20 Wg tmps todo),iS SC false 11 (d20 Wg tmps todo),bP (d31 Wg tmps todo),jS SC false 11 1 (d20 Wg tmps todo))=(fG SC false w 11 (d20 Wg tmps todo),true,true,1):=by kernel_rfl
theorem x31:cy (d31 Wg tmps todo)=some (113,#[]):=by kernel_rfl
theorem Hz:(fO SC false w 22 (d32 Wg tmps todo),iS SC false 22 (d32 Wg tmps todo),bP (d54 Wg tmps todo),jS SC false 22 1 (d32 Wg tmps todo))=(fG SC false w 22 (d32 Wg tmps todo),true,true,1):=by kernel_rfl
theorem x54:cy (d54 Wg tmps todo)=some (134,#[pW Wg 0,.int .u64 18446744069414584320]):=by kernel_rfl
theorem q30:(fO SC false w 94 (d55 Wg tmps todo (3* 4294967296)),iS SC false 94 (d55 Wg tmps todo (3* 4294967296)),(cI SC false 94 (d55 Wg tmps todo (3* 4294967296))).status,jS SC false 94 1 (d55 Wg tmps todo (3* 4294967296)))=(fG SC false w 94 (d55 Wg tmps todo (3* 4294967296)),true,.finished,0):=by kernel_rfl
theorem q31:(fO SC false w 94 (d55 Wg tmps todo (3* 4294967296+1)),iS SC false 94 (d55 Wg tmps todo (3* 4294967296+1)),(cI SC false 94 (d55 Wg tmps todo (3* 4294967296+1))).status,jS SC false 94 1 (d55 Wg tmps todo (3* 4294967296+1)))=(fG SC false w 94 (d55 Wg tmps todo (3* 4294967296+1)),true,.finished,0):=by kernel_rfl
theorem q20:(fO SC false w 94 (d55 Wg tmps todo (2* 4294967296)),iS SC false 94 (d55 Wg tmps todo (2* 4294967296)),(cI SC false 94 (d55 Wg tmps todo (2* 4294967296))).status,jS SC false 94 1 (d55 Wg tmps todo (2* 4294967296)))=(fG SC false w 94 (d55 Wg tmps todo (2* 4294967296)),true,.finished,0):=by kernel_rfl
theorem q21:(fO SC false w 94 (d55 Wg tmps todo (2* 4294967296+1)),iS SC false 94 (d55 Wg tmps todo (2* 4294967296+1)),(cI SC false 94 (d55 Wg tmps todo (2* 4294967296+1))).status,jS SC false 94 1 (d55 Wg tmps todo (2* 4294967296+1)))=(fG SC false w 94 (d55 Wg tmps todo (2* 4294967296+1)),true,.finished,0):=by kernel_rfl
theorem q10:(fO SC false w 94 (d55 Wg tmps todo (1* 4294967296)),iS SC false 94 (d55 Wg tmps todo (1* 4294967296)),(cI SC false 94 (d55 Wg tmps todo (1* 4294967296))).status,jS SC false 94 1 (d55 Wg tmps todo (1* 4294967296)))=(fG SC false w 94 (d55 Wg tmps todo (1* 4294967296)),true,.finished,0):=by kernel_rfl
theorem q11:(fO SC false w 94 (d55 Wg tmps todo (1* 4294967296+1)),iS SC false 94 (d55 Wg tmps todo (1* 4294967296+1)),(cI SC false 94 (d55 Wg tmps todo (1* 4294967296+1))).status,jS SC false 94 1 (d55 Wg tmps todo (1* 4294967296+1)))=(fG SC false w 94 (d55 Wg tmps todo (1* 4294967296+1)),true,.finished,0):=by kernel_rfl
theorem q00:(fO SC false w 94 (d55 Wg tmps todo 0),iS SC false 94 (d55 Wg tmps todo 0),(cI SC false 94 (d55 Wg tmps todo 0)).status,jS SC false 94 1 (d55 Wg tmps todo 0))=(fG SC false w 94 (d55 Wg tmps todo 0),true,.finished,0):=by kernel_rfl
theorem HA:(fO SC false w 103 (d55 Wg tmps todo 1),iS SC false 103 (d55 Wg tmps todo 1),bP (d158 Wg tmps todo),jS SC false 103 1 (d55 Wg tmps todo 1))=(fG SC false w 103 (d55 Wg tmps todo 1),true,true,1):=by kernel_rfl
theorem arS:cy (d158 Wg tmps todo)=some (135,#[pW Wg 0]):=by kernel_rfl
theorem Hu:(fO SC false w 20 (d159 Wg tmps todo),iS SC false 20 (d159 Wg tmps todo),bP (d179 Wg tmps todo),jS SC false 20 1 (d159 Wg tmps todo))=(fG SC false w 20 (d159 Wg tmps todo),true,true,1):=by kernel_rfl
theorem arT:cy (d179 Wg tmps todo)=some (136,#[pW Wg 0,.int .u64 0]):=by kernel_rfl
theorem Hw:(fO SC false w 27 (d180 Wg tmps todo),iS SC false 27 (d180 Wg tmps todo),bP (Bg Wg tmps todo),jS SC false 27 1 (d180 Wg tmps todo))=(fG SC false w 27 (d180 Wg tmps todo),true,true,1):=by kernel_rfl
theorem arU:cy (Bg Wg tmps todo)=some (122,#[pW Wg 1,.bool false,.int .i64 0]):=by kernel_rfl
theorem Hy:(fO SC false w 24 (yU Wg tmps todo),iS SC false 24 (yU Wg tmps todo),(cI SC false 24 (yU Wg tmps todo)).status,jS SC false 24 1 (yU Wg tmps todo))=(fG SC false w 24 (yU Wg tmps todo),true,.finished,0):=by kernel_rfl
theorem xm:mayWake SC (Bg Wg tmps todo)=true:=by kernel_rfl
end
section
variable (Wg:Nat)(tmps:Array SO)(todo:List WW)
theorem d_{α β γ δ:Type}{a a':α}{b b':β}{c c':γ}{d d':δ}(h:(a,b,c,d)=(a',b',c',d')):a=a'/\b=b'/\c=c'/\d=d':=by
 simpa[U0]using h
theorem xa{s:Int}(h:∀w,(fO SC false w 94 (d55 Wg tmps todo s),iS SC false 94 (d55 Wg tmps todo s),(cI SC false 94 (d55 Wg tmps todo s)).status,jS SC false 94 1 (d55 Wg tmps todo s))=(fG SC false w 94 (d55 Wg tmps todo s),true,.finished,0)):∃q,Y5 SC q 1 (d55 Wg tmps todo s):=
 GR 94 1 _ (λw=>(d_ (h w)).1) (d_ (h default)).2.1 (ML (d_ (h default)).2.2.1 (d_ (h default)).2.2.2)
theorem agt:Dx SC Wg 1 (Bg Wg tmps todo):=by
 refine⟨rfl,bP.out (d_ (Hw Wg tmps todo default)).2.2.1,xm Wg tmps todo,yU Wg tmps todo,λw hw=> ?_,?_⟩
 ·exact aqh (n:=0) (arU Wg tmps todo) agE hw.st.2.1 hw.st.2.2.2
 ·exact GR 24 1 _ (λw=>(d_ (Hy Wg tmps todo w)).1) (d_ (Hy Wg tmps todo default)).2.1 (ML (d_ (Hy Wg tmps todo default)).2.2.1 (d_ (Hy Wg tmps todo default)).2.2.2)
theorem agu:Dy SC Wg 1 (d179 Wg tmps todo):=by
 refine⟨rfl,bP.out (d_ (Hu Wg tmps todo default)).2.2.1,d180 Wg tmps todo,λw hw=> ?_,?_⟩
 ·exact aqj (arT Wg tmps todo) agH hw.st.1 hw.st.2.2.1
 ·refine wD 27 1 _ (λw=>(d_ (Hw Wg tmps todo w)).1) (d_ (Hw Wg tmps todo default)).2.1 ?_;rw[(d_ (Hw Wg tmps todo default)).2.2.2];exact⟨0,agt Wg tmps todo⟩
theorem ags:Dw SC Wg 1 (d158 Wg tmps todo):=by
 refine⟨rfl,bP.out (d_ (HA Wg tmps todo default)).2.2.1,d159 Wg tmps todo,λw hw=> ?_,?_⟩
 ·exact M4 (arS Wg tmps todo) IJ hw.st.1
 ·refine wD 20 1 _ (λw=>(d_ (Hu Wg tmps todo w)).1) (d_ (Hu Wg tmps todo default)).2.1 ?_;rw[(d_ (Hu Wg tmps todo default)).2.2.2];exact⟨0,agu Wg tmps todo⟩
theorem agq:AC SC Wg 1 (d54 Wg tmps todo):=by
 refine⟨rfl,bP.out (d_ (Hz Wg tmps todo default)).2.2.1,λv wt uG hv=>⟨d55 Wg tmps todo ((v:Int)* KK+wt),λw hw=> ?_,λh=> ?_,λh=> ?_⟩⟩
 ·have e:TA.wrap ((((v+1:Nat):Int)* KK+wt)+18446744069414584320)=(v:Int)* KK+wt:=by
   have h1:TA.bits=64:=rfl;have h2:TA.signed=false:=rfl;unfold Xe KK;rw[h1,h2];simp;omega
  have:=acp (P:=SC) (main:=false) (w:=w) (x54 Wg tmps todo) Pj hw.st.1 hw.st.2.2.1;rw[e]at this;exact this
 ·obtain⟨rfl,rfl⟩:=h;refine wD 103 1 _ (λw=>(d_ (HA Wg tmps todo w)).1) (d_ (HA Wg tmps todo default)).2.1 ?_;have e:=(d_ (HA Wg tmps todo default)).2.2.2;exact⟨0,by rw[show (((0:Nat):Int)* KK+((1:Nat):Int))=1 from rfl,e];exact ags Wg tmps todo⟩
 ·have hv4:v=0\/v=1\/v=2\/v=3:=by omega
  have gY:wt=0\/wt=1:=by omega
  rcases hv4 with rfl|rfl|rfl|rfl<;>rcases gY with rfl|rfl
  ·exact xa Wg tmps todo (q00 Wg tmps todo)
  ·exact absurd ⟨rfl,rfl⟩ h
  ·exact xa Wg tmps todo (q10 Wg tmps todo)
  ·exact xa Wg tmps todo (q11 Wg tmps todo)
  ·exact xa Wg tmps todo (q20 Wg tmps todo)
  ·exact xa Wg tmps todo (q21 Wg tmps todo)
  ·exact xa Wg tmps todo (q30 Wg tmps todo)
  ·exact xa Wg tmps todo (q31 Wg tmps todo)
theorem agr:DI SC Wg (d15 Wg tmps todo):=by
 refine⟨bP.out (d_ (x0 Wg tmps todo default)).2.2.2,d16 Wg tmps todo,λw=>G9 .releaseMerge (λ_ _ h=>by cases h) (x15 Wg tmps todo) agB,?_⟩;refine wD 3 0 _ (λw=>(d_ (Hv Wg tmps todo w)).1) (d_ (Hv Wg tmps todo default)).2.1 ?_;rw[(d_ (Hv Wg tmps todo default)).2.2.2];refine MZ (g:=d19 Wg tmps todo) (g':=d20 Wg tmps todo) (bP.out (d_ (Hv Wg tmps todo default)).2.2.1) (L8 (.inl rfl)) (λw=>G8 (λ_ h=>by cases h) (x19 Wg tmps todo) II) ?_;refine wD 11 1 (d20 Wg tmps todo) (λw=>(d_ (Hx Wg tmps todo w)).1) (d_ (Hx Wg tmps todo default)).2.1 ?_;rw[(d_ (Hx Wg tmps todo default)).2.2.2];refine MZ (es:=#[]) (g:=d31 Wg tmps todo) (g':=d32 Wg tmps todo) (bP.out (d_ (Hx Wg tmps todo default)).2.2.1) (by simp) (λw=>acr (x31 Wg tmps todo) Pg) ?_;refine wD 22 1 (d32 Wg tmps todo) (λw=>(d_ (Hz Wg tmps todo w)).1) (d_ (Hz Wg tmps todo default)).2.1 ?_;rw[(d_ (Hz Wg tmps todo default)).2.2.2];exact⟨0,agq Wg tmps todo⟩
theorem agv{J:View->SH->Prop}(C:yr SC false J){V:View}{c:Nat}(hr:V.role=.work c Wg [])(hd:V.deaf=0):J V (d0 Wg tmps todo):=by
 have C':Closed false SC false J:={C with more:=λh=>by cases h};have hx:=d_ (x0 Wg tmps todo default);refine tn C' 14 _ (λw=>(d_ (x0 Wg tmps todo w)).1) hx.2.1 ?_;refine C.slip V _ (d15 Wg tmps todo) c Wg hr (bP.out hx.2.2.1) (λw st hw hW=> ?_) (C.done V _ c Wg hr hd (agr Wg tmps todo));exact G_ (x14 Wg tmps todo) ac8 Hg i182 hW.st.1
end
section
variable (Wg:Nat)(cs:List T8)(main:Bool)
noncomputable def a0:SH:=G (Frame.enter SC 96 #[pW Wg 0,.int .i64 1] .normal) cs
noncomputable def DU:SH:=cI SC main 12 (a0 Wg cs)
noncomputable def A0:SH:=fin (DU Wg cs main) (.tuple #[])
noncomputable def DV:SH:=cI SC main 11 (A0 Wg cs main)
noncomputable def A2:SH:=fin (DV Wg cs main) (.bool false)
noncomputable def DW:SH:=cI SC main 22 (A2 Wg cs main)
noncomputable def nc (s:Int):SH:=fin (DW Wg cs main) (.int .u64 s)
noncomputable def nb (s:Int):SH:=cI SC main 87 (nc Wg cs main s)
noncomputable def HV:SH:=cI SC main 52 (nc Wg cs main 4294967296)
noncomputable def AY:SH:=fin (HV Wg cs main) (pW Wg 1)
noncomputable def AZ:SH:=fin (AY Wg cs main) (.tuple #[])
noncomputable def A1:SH:=cI SC main 39 (AZ Wg cs main)
set_option maxRecDepth 100000
variable (w:Tq)
theorem y0:(fO SC main w 12 (a0 Wg cs),oH SC main 12 (a0 Wg cs),bP (DU Wg cs main),cy (DU Wg cs main))=(fG SC main w 12 (a0 Wg cs),true,true,some (111,#[])):=by kernel_rfl
theorem y13:(fO SC main w 11 (A0 Wg cs main),oH SC main 11 (A0 Wg cs main),bP (DV Wg cs main),cy (DV Wg cs main))=(fG SC main w 11 (A0 Wg cs main),true,true,some (113,#[])):=by kernel_rfl
theorem y25:(fO SC main w 22 (A2 Wg cs main),oH SC main 22 (A2 Wg cs main),bP (DW Wg cs main),cy (DW Wg cs main))=(fG SC main w 22 (A2 Wg cs main),true,true,some (134,#[pW Wg 0,.int .u64 4294967296])):=by kernel_rfl
noncomputable def ya (g:SH):ZC×U9×Nat×Xg×List UX×Bool:=(.go (gB SC main g) w #[⟨.mark .enable,false,true⟩],(gB SC main g).frame.mode,(gB SC main g).frame.fn,(gB SC main g).frame.kind,(gB SC main g).frame.defers,bP (gB SC main g))
theorem NA:(fO SC main w 87 (nc Wg cs main (2* 4294967296)),oH SC main 87 (nc Wg cs main (2* 4294967296)),bP (nb Wg cs main (2* 4294967296)),ya main w (nb Wg cs main (2* 4294967296)))=(fG SC main w 87 (nc Wg cs main (2* 4294967296)),true,true,stepG SC main (nb Wg cs main (2* 4294967296)) w,.returning,96,.normal,[],true):=by kernel_rfl
theorem NB:(fO SC main w 87 (nc Wg cs main (3* 4294967296)),oH SC main 87 (nc Wg cs main (3* 4294967296)),bP (nb Wg cs main (3* 4294967296)),ya main w (nb Wg cs main (3* 4294967296)))=(fG SC main w 87 (nc Wg cs main (3* 4294967296)),true,true,stepG SC main (nb Wg cs main (3* 4294967296)) w,.returning,96,.normal,[],true):=by kernel_rfl
theorem NC:(fO SC main w 87 (nc Wg cs main (4* 4294967296)),oH SC main 87 (nc Wg cs main (4* 4294967296)),bP (nb Wg cs main (4* 4294967296)),ya main w (nb Wg cs main (4* 4294967296)))=(fG SC main w 87 (nc Wg cs main (4* 4294967296)),true,true,stepG SC main (nb Wg cs main (4* 4294967296)) w,.returning,96,.normal,[],true):=by kernel_rfl
theorem adn:(fO SC main w 52 (nc Wg cs main 4294967296),oH SC main 52 (nc Wg cs main 4294967296),bP (HV Wg cs main),oV (HV Wg cs main))=(fG SC main w 52 (nc Wg cs main 4294967296),true,true,some (165,160,pW Wg 1)):=by kernel_rfl
theorem arV:cy (AY Wg cs main)=some (118,#[pW Wg 1]):=by kernel_rfl
theorem Nz:(fO SC main w 39 (AZ Wg cs main),oH SC main 39 (AZ Wg cs main),bP (A1 Wg cs main),ya main w (A1 Wg cs main))=(fG SC main w 39 (AZ Wg cs main),true,true,stepG SC main (A1 Wg cs main) w,.returning,96,.normal,[],true):=by kernel_rfl
theorem yr1:bP (AY Wg cs main)=true:=by kernel_rfl
theorem Hh:∃t,SC.underlying 165=some (.pointer t)/\(SC.info? t).map (λi=>decide (i.size=0))=some false:=⟨145,by kernel_rfl,by kernel_rfl⟩
theorem ahw:∃fn,SC.funcs[96]?=some fn/\fn.results=#[]:=⟨Tryz.f96,by kernel_rfl,by kernel_rfl⟩
end
section
variable {P:SK}{V:View}
theorem aqr{w:Tq}{b o:Nat}{v:SO}{c:Array SO}{el:TypeId}(hw:Sat V w)(ho:V.own b=some (.cells c el (0,0)))(cG:V.ab b o=none)(J9:V.role.chan≠some b):
  dj V w (V.upd b (.cells (c.setIfInBounds o v) el (0,0))) (w.setCell ⟨b,o,none⟩ v) #[⟨.cell ⟨b,o,none⟩,false,true⟩,⟨.cell ⟨b,o,none⟩,true,true⟩]:=by
 refine⟨hw.adc ho cG,rfl,rfl,rfl,by rw[C9];exact SU _,λb' dq e=>vY _ _ _ (λx=> ?_),λb' dq e=> ?_,λ_ _ _ e=>e,λ_ _ _ e=> .inl e,λev cr=> ?_,by simp[deafBehind];rfl,rfl,λc' x ba e=>by rw[<- e];simp only[View.upd,ite_eq_right_iff];intro x';subst x';exact absurd ba J9,λev cr=> ?_⟩
 ·have x':b=b':=x;subst x';rw[ho]at e;cases e
 ·have:b'≠b:=by intro x;subst x;rw[ho]at e;cases e
  simp only[View.upd,this,if_false];exact e
 ·simp only[TJ,SL,S4,or_false]at cr;rcases cr with rfl|rfl
  ·exact⟨.inr (.inl (by show V.own b≠none;rw[ho];simp)),.inl rfl⟩
  ·exact⟨.inr ⟨by show V.own b≠none;rw[ho];simp,cG⟩,.inl rfl⟩
 ·simp only[TJ,SL,S4,or_false]at cr;rcases cr with rfl|rfl<;>(show b<_;rw[C9];exact hw.lt ho)
theorem Closed.said{lv main:Bool}{J:View->SH->Prop}(C:Closed lv P main J){g g':SH}{a:U4}(hr:g.status=.running)(ha:V.own a.block≠none/\V.ab a.block a.off=none)(h:∀w,stepG P main g w=.go g' w #[⟨.mark (.read a),false,true⟩]) (hJ:J V g'):J V g:=by
 refine C.step _ _ hr λw hw=> ?_;have hs:=apN (P:=P) (V:=V) (k:=(.pure ():Sem Unit)) (K:=λ_ V'=>V'=V) (Kp:=λ_ _=>False) (m:=.read a) (.inl rfl) ha (cM rfl);obtain⟨es,w',V',k1,k2,k3⟩:=hs.runs hw;rcases k3 with⟨x,k3,rfl⟩|⟨_,_,hx⟩
 ·have e1:Yh () w=Yh x w':=k3;have e2:es=#[⟨.mark (.read a),false,true⟩]:=k2.symm;cases e1;subst e2;refine⟨g',w,_,_,h w,?_,hJ⟩;rwa [tx (by simp)]at k1
 ·exact hx.elim
end
section
variable (Wg:Nat)(cs:List T8)(main:Bool)
set_option maxRecDepth 100000
theorem yG2:gB SC main (nb Wg cs main (2* 4294967296))=G (gB SC main (nb Wg cs main (2* 4294967296))).frame cs:=by kernel_rfl
theorem yG3:gB SC main (nb Wg cs main (3* 4294967296))=G (gB SC main (nb Wg cs main (3* 4294967296))).frame cs:=by kernel_rfl
theorem yG4:gB SC main (nb Wg cs main (4* 4294967296))=G (gB SC main (nb Wg cs main (4* 4294967296))).frame cs:=by kernel_rfl
theorem yG1:gB SC main (A1 Wg cs main)=G (gB SC main (A1 Wg cs main)).frame cs:=by kernel_rfl
end
theorem kR{α β γ δ:Type}{a a':α}{b b':β}{c c':γ}{d d':δ}(h:(a,b,c,d)=(a',b',c',d')):a=a'/\b=b'/\c=c'/\d=d':=by
 simpa[U0]using h
section
variable {lv main:Bool}{J:View->SH->Prop}{V:View}{cs:List T8}
theorem DZ(C:Closed lv SC main J){g:SH}{U:View}(bL:bP g=true)(h:∀w,(Go.Gg.ya main w g)=(stepG SC main g w,.returning,96,.normal,[],true))(hG:gB SC main g=G (gB SC main g).frame cs)
  (hU:U={V with deaf:=deafBehind V.deaf #[⟨.mark .enable,false,true⟩]}) (hJ:∀fr,Leaves SC fr 96 .normal (.ret (.tuple #[])) U->J U (G fr cs)):J V g:=by
 refine C.mute (.inr rfl) (bP.out bL) (λw=> ?_) (g':=gB SC main g) ?_
 ·have:=h w;simp only[Go.Gg.ya,U0]at this;exact this.1.symm
 ·have:=h default;simp only[Go.Gg.ya,U0]at this;obtain⟨_,h1,h2,h3,h4,_⟩:=this;rw[hG,<- hU];refine hJ _ ⟨h2,h4,h3,?_⟩;obtain⟨fn,hf,hr⟩:=ahw;exact⟨fn,hf,h1,results_none hr⟩
theorem aer{n Wg:Nat}{sm:TypeId}(hn:n<4)(hW:V.own Wg=some (.cells #[.int .u64 ((n:Int)* KK),.int .u32 0] sm (0,0))) (hi:∀o,V.ab Wg o=none) (hc:V.role.chan≠some Wg) (hd:V.deaf=0):
  Body lv SC 96 #[pW Wg 0,.int .i64 1] .normal V (λo V'=>o=.ret (.tuple #[])/\V'=V.upd Wg (.cells #[.int .u64 (((n+1:Nat):Int)* KK),.int .u32 0] sm (0,0))):=by
 intro main J C cs hJ;have hA:=kR (y0 Wg cs main default);show J V (a0 Wg cs);refine tn C 12 _ (λw=>(kR (y0 Wg cs main w)).1) hA.2.1 ?_;refine C.mute (g:=DU Wg cs main) (g':=A0 Wg cs main) (.inl rfl) (bP.out hA.2.2.1) (λw=>G8 (λ_ h=>by cases h) hA.2.2.2 II) ?_;have hB:=kR (y13 Wg cs main default);refine tn C 11 _ (λw=>(kR (y13 Wg cs main w)).1) hB.2.1 ?_;refine C.idle (g:=DV Wg cs main) (g':=A2 Wg cs main) (bP.out hB.2.2.1) (λw=>acr hB.2.2.2 Pg) ?_;have hC:=kR (y25 Wg cs main default);refine tn C 22 _ (λw=>(kR (y25 Wg cs main w)).1) hC.2.1 ?_;let V1:View:={V with deaf:=deafBehind V.deaf #[⟨.mark .disable,false,true⟩]};let V2:View:=V1.upd Wg (.cells #[.int .u64 (((n+1:Nat):Int)* KK),.int .u32 0] sm (0,0));have ze:{V2 with deaf:=deafBehind V2.deaf #[⟨.mark .enable,false,true⟩]}=V.upd Wg (.cells #[.int .u64 (((n+1:Nat):Int)* KK),.int .u32 0] sm (0,0)):=by
  obtain⟨i,o,d,r⟩:=V;have:d=0:=hd;subst this;rfl
 show J V1 (DW Wg cs main);refine C.step _ _ (bP.out hC.2.2.1) λw hw=> ?_;have hh:=hw.own Wg _ hW;have dt:w.cell? ⟨Wg,0,none⟩=some (.int .u64 ((n:Int)* KK)):=by simp[Uy,hh]
 have iD:w.frozen? ⟨Wg,0,none⟩=false:=by simp[ZT,hh]
 have hs:=acp (P:=SC) (main:=main) (w:=w) hC.2.2.2 Pj dt iD;have e:TA.wrap (((n:Int)* KK)+4294967296)=((n+1:Nat):Int)* KK:=by
  have h1:TA.bits=64:=rfl;have h2:TA.signed=false:=rfl;unfold Xe KK;rw[h1,h2];simp;omega
 rw[e]at hs;refine⟨nc Wg cs main (((n+1:Nat):Int)* KK),_,_,V2,hs,?_,?_⟩
 ·exact aqr (V:=V1) hw hW (hi 0) hc
 have Rx:n=0\/n=1\/n=2\/n=3:=by omega
 rcases Rx with rfl|rfl|rfl|rfl
 ·have hD:=kR (adn Wg cs main default);refine tn C 52 _ (λw=>(kR (adn Wg cs main w)).1) hD.2.1 ?_;obtain⟨t,ht1,FL⟩:=Hh;have Qs:V2.own Wg=some (.cells #[.int .u64 (((0+1:Nat):Int)* KK),.int .u32 0] sm (0,0)):=by simp[V2,View.upd]
  refine C.step _ _ (bP.out hD.2.2.1) λw hw=>⟨AY Wg cs main,w,#[],V2,?_,.idle hw,?_⟩
  ·have hh:=hw.own Wg _ Qs;exact G_ hD.2.2.2 ht1 Hg FL (v:=.int .u32 0) (by simp[Uy,hh])
  refine C.said (g:=AY Wg cs main) (g':=AZ Wg cs main) (a:=⟨Wg,1,none⟩) (bP.out (yr1 Wg cs main)) ⟨by show V2.own Wg≠none;rw[Qs];simp,hi 1⟩ (λw=>G9 .read (λ_ _ h=>by cases h) (arV Wg cs main) agD) ?_;have hE:=kR (Nz Wg cs main default);refine tn C 39 _ (λw=>(kR (Nz Wg cs main w)).1) hE.2.1 ?_;exact DZ C hE.2.2.1 (λw=>(kR (Nz Wg cs main w)).2.2.2) (yG1 Wg cs main) ze.symm λfr hl=>hJ _ _ fr ⟨rfl,rfl⟩ hl
 ·have hE:=kR (NA Wg cs main default);refine tn C 87 _ (λw=>(kR (NA Wg cs main w)).1) hE.2.1 ?_;exact DZ C hE.2.2.1 (λw=>(kR (NA Wg cs main w)).2.2.2) (yG2 Wg cs main) ze.symm λfr hl=>hJ _ _ fr ⟨rfl,rfl⟩ hl
 ·have hE:=kR (NB Wg cs main default);refine tn C 87 _ (λw=>(kR (NB Wg cs main w)).1) hE.2.1 ?_;exact DZ C hE.2.2.1 (λw=>(kR (NB Wg cs main w)).2.2.2) (yG3 Wg cs main) ze.symm λfr hl=>hJ _ _ fr ⟨rfl,rfl⟩ hl
 ·have hE:=kR (NC Wg cs main default);refine tn C 87 _ (λw=>(kR (NC Wg cs main w)).1) hE.2.1 ?_;exact DZ C hE.2.2.1 (λw=>(kR (NC Wg cs main w)).2.2.2) (yG4 Wg cs main) ze.symm λfr hl=>hJ _ _ fr ⟨rfl,rfl⟩ hl
end
section
variable {P:SK}{main:Bool}{g:SH}{w:Tq}
def uQ (g:SH):Option (TypeId×SO):=match ready g with
 |some {op:=.load t x, .. }=>some (t,g.frame.eval x)
 |_=>none
theorem aqf{t:TypeId}{d:TypeDesc}{ad:U4}{v:SO}(h:uQ g=some (t,.pointer (some ad)))(ht:P.underlying t=some d)(hd:TypeDesc.agg d=false)(hq:(P.funcs[g.frame.fn]?).any (·.norace)=false)(hc:w.cell? ad=some v):
  stepG P main g w=.go (fin g v) w #[⟨.cell ad,false,false⟩]:=by
 obtain⟨o,x,h1,h2,h3⟩:∃o x,ready g=some o/\o.op=.load t x/\g.frame.eval x=.pointer (some ad):=by
  unfold uQ at h;split at h
  ·rename_i s x _ _ _ _ ho;simp only[Tm,U0]at h;obtain⟨rfl,h⟩:=h;exact⟨_,x,ho,rfl,h⟩
  ·cases h
 obtain⟨b,a,ops,i,rest,kk,cs,e,q1,q2,q3,q4,q5,q6,_⟩:=ready.out h1;rw[<- q4]at h3;rw[<- q5];refine VL (congrArg (λx=>stepG P main x w) e) ?_;have e1:execOp a.eval o=(do let v<- XD t (.pointer (some ad));pure (.value v)):=by
  unfold execOp;simp only[h2,h3]
 have e2:(isAgg t:Sem Bool).run P w=.ok false w/\∀es,(isAgg t:Sem Bool).events P w es=es:=by
  unfold isAgg Go.underlying;cases d<;>first
   |(exact(Bool.noConfusion hd))
   |(constructor<;>simp[go_sem,ht])
 have hr:(execOp a.eval o).run P w=.ok (.value v) w:=by
  rw[e1];simp[XD,Va,loadVar,e2.1,hc]
 have cr:(execOp a.eval o).events P w #[]=#[⟨.cell ad,false,false⟩]:=by
  rw[e1];simp[XD,Va,loadVar,e2.1,e2.2,hc]
 rw[atz q1 q2 q3 hr];unfold listed;rw[cr,seen_eq (by rw[q6];exact hq) (by intro e he f;simp only[TJ,SL,S4,or_false]at he;rw[he];simp)]
def w9 (g:SH):Option SO:=match ready g with
 |some {op:=.call {callee:=.builtin .close,args, .. }, .. }=>match args.toList with
  |[x]=>some (g.frame.eval x)
  |_=>none
 |_=>none
theorem aqe{c cap s r:Nat}{Ec:Array SO}{tm:Bool}(h:w9 g=some (.chan (some c)))(hq:(P.funcs[g.frame.fn]?).any (·.norace)=false)(hc:w.heap[c]?=some (.chan cap Ec false s r tm)):
  stepG P main g w=.go (fin g (.tuple #[])) {w with heap:=w.heap.setIfInBounds c (.chan cap Ec true s r tm)} #[⟨.obj c,false,true⟩,⟨.obj c,true,true⟩]:=by
 obtain⟨o,x,l8,h1,h2,h3⟩:∃o x l8,ready g=some o/\o.op=.call {callee:=.builtin .close,args:=#[x],argTypes:=l8}/\g.frame.eval x=.chan (some c):=by
  unfold w9 at h;split at h
  ·rename_i dst xs l8 ty pos af gd ho;split at h
   ·rename_i x hx;have:xs=#[x]:=(by apply VC;simpa using hx);subst this;exact⟨_,x,_,ho,rfl,by simpa using h⟩
   ·cases h
  ·cases h
 obtain⟨b,a,ops,i,rest,kk,cs,e,q1,q2,q3,q4,q5,q6,_⟩:=ready.out h1;rw[<- q4]at h3;rw[<- q5];refine VL (congrArg (λx=>stepG P main x w) e) ?_;exact stepG_close q1 q2 q3 h2 h3 hc (by rw[q6];exact hq)
end
section
variable (Wg fc c:Nat)
noncomputable def e0:SH:=born SC ⟨.fn (.func 100) #[pW Wg 0,pW fc 0],#[]⟩
noncomputable def e7:SH:=cI SC false 7 (e0 Wg fc)
noncomputable def e8:SH:=fin (e7 Wg fc) (.tuple #[])
noncomputable def e27:SH:=cI SC false 19 (e8 Wg fc)
noncomputable def f76 (h:SH)(v:Int):SH:=cI SC false 48 (fin h (.int .u64 v))
noncomputable def LZ (b:SH):SH:=cI SC false 25 (fin b (.bool false))
noncomputable def f96 (b:SH):SH:=cI SC false 19 (fin b (.bool true))
noncomputable def f97 (b:SH):SH:=fin (f96 b) (pW Wg 1)
noncomputable def f121 (b:SH):SH:=cI SC false 23 (fin (f97 Wg b) (.tuple #[]))
noncomputable def f138 (b:SH):SH:=cI SC false 16 (fin (f121 Wg b) (.tuple #[]))
noncomputable def f150 (b:SH):SH:=cI SC false 11 (fin (f138 Wg b) (.int .u64 0))
noncomputable def f154 (b:SH):SH:=cI SC false 3 (fin (f150 Wg b) (.tuple #[]))
noncomputable def f155 (b:SH):SH:=fin (f154 Wg b) (pW Wg 0)
noncomputable def f168 (b:SH):SH:=cI SC false 12 (fin (f155 Wg b) (.tuple #[]))
noncomputable def f169 (b:SH):SH:=fin (f168 Wg b) (.chan (some c))
noncomputable def f170 (b:SH):SH:=fin (f169 Wg c b) (.tuple #[])
noncomputable def yq (h:SH):SH:=cI SC false 31 (fin h (.int .u64 0))
noncomputable def ND (h:SH):SH:=cI SC false 3 (fin (yq h) (.tuple #[]))
noncomputable def u9 (h:SH):SH:=fin (ND h) (pW Wg 0)
noncomputable def Dr (h:SH):SH:=cI SC false 22 (fin (u9 Wg h) (.tuple #[]))
noncomputable def u_ (h:SH):SH:=fin (Dr Wg h) (.chan (some c))
noncomputable def HE (h:SH):SH:=fin (u_ Wg c h) (.tuple #[])
noncomputable def hd:List Int->SH
 |[]=>e27 Wg fc
 |v::l=>LZ (f76 (hd l) v)
noncomputable def bd (l:List Int)(v:Int):SH:=f76 (hd Wg fc l) v
noncomputable def fz (w:Tq)(n d:Nat)(g:SH):List ZC×Bool×Bool×Nat:=(fO SC false w n g,iS SC false n g,bP (cI SC false n g),jS SC false n d g)
noncomputable def fy (w:Tq)(n d:Nat)(g:SH):List ZC×Bool×Bool×Nat:=(fG SC false w n g,true,true,d)
noncomputable def yX (w:Tq)(n:Nat)(g:SH):List ZC×Bool×GoStatus×Nat:=(fO SC false w n g,iS SC false n g,(cI SC false n g).status,jS SC false n 0 g)
noncomputable def yW (w:Tq)(n:Nat)(g:SH):List ZC×Bool×GoStatus×Nat:=(fG SC false w n g,true,.finished,0)
noncomputable def qy (g:SH):Bool:= !(SC.funcs[g.frame.fn]?).any (·.norace)
noncomputable def zT (w:Tq)(h:SH):=(cy h,bP h,fz w 31 1 (fin h (.int .u64 0)),cy (yq h),fz w 3 0 (fin (yq h) (.tuple #[])),oV (ND h),cy (u9 Wg h),bP (u9 Wg h),fz w 22 0 (fin (u9 Wg h) (.tuple #[])),uQ (Dr Wg h),qy (Dr Wg h),w9 (u_ Wg c h),qy (u_ Wg c h),bP (u_ Wg c h),mayWake SC (u_ Wg c h),yX w 4 (HE Wg c h))
noncomputable def zR (w:Tq)(h:SH):=(some ((135:TN),#[pW Wg 0]),true,fy w 31 1 (fin h (.int .u64 0)),some ((112:TN),(#[]:Array SO)),fy w 3 0 (fin (yq h) (.tuple #[])),some ((158:TypeId),(160:TypeId),pW Wg 0),some ((123:TN),#[pW Wg 0]),true,fy w 22 0 (fin (u9 Wg h) (.tuple #[])),some ((139:TypeId),pW fc 0),true,some (XS (some c)),true,true,true,yW w 4 (HE Wg c h))
noncomputable def fT (w:Tq)(b:SH):=(cy b,bP b,fz w 25 1 (fin b (.bool false)),fz w 19 1 (fin b (.bool true)),oV (f96 b),cy (f97 Wg b),bP (f97 Wg b),fz w 23 1 (fin (f97 Wg b) (.tuple #[])),cy (f121 Wg b),(f121 Wg b).offers,fz w 16 1 (fin (f121 Wg b) (.tuple #[])),cy (f138 Wg b),fz w 11 1 (fin (f138 Wg b) (.int .u64 0)),cy (f150 Wg b),fz w 3 0 (fin (f150 Wg b) (.tuple #[])),oV (f154 Wg b),cy (f155 Wg b),bP (f155 Wg b),fz w 12 0 (fin (f155 Wg b) (.tuple #[])),uQ (f168 Wg b),qy (f168 Wg b),w9 (f169 Wg c b),qy (f169 Wg c b),bP (f169 Wg c b),mayWake SC (f169 Wg c b),yX w 4 (f170 Wg c b))
noncomputable def fR (w:Tq)(b:SH)(v:Int):=(some ((137:TN),#[pW Wg 0,.int .u64 v,.int .u64 (v+1)]),true,fy w 25 1 (fin b (.bool false)),fy w 19 1 (fin b (.bool true)),some ((165:TypeId),(160:TypeId),pW Wg 1),some ((126:TN),#[pW Wg 1]),true,fy w 23 1 (fin (f97 Wg b) (.tuple #[])),some ((127:TN),#[pW Wg 1,.bool false]),(none:Option (Array CommCase×CommShape)),fy w 16 1 (fin (f121 Wg b) (.tuple #[])),some ((135:TN),#[pW Wg 0]),fy w 11 1 (fin (f138 Wg b) (.int .u64 0)),some ((112:TN),(#[]:Array SO)),fy w 3 0 (fin (f150 Wg b) (.tuple #[])),some ((158:TypeId),(160:TypeId),pW Wg 0),some ((123:TN),#[pW Wg 0]),true,fy w 12 0 (fin (f155 Wg b) (.tuple #[])),some ((139:TypeId),pW fc 0),true,some (XS (some c)),true,true,true,yW w 4 (f170 Wg c b))
set_option maxRecDepth 100000
theorem c0(w:Tq):(fz w 7 0 (e0 Wg fc),cy (e7 Wg fc),fz w 19 1 (e8 Wg fc))=(fy w 7 0 (e0 Wg fc),some ((111:TN),(#[]:Array SO)),fy w 19 1 (e8 Wg fc)):=by kernel_rfl
noncomputable def pT (w:Tq)(l:List Int)(v:Int):=(fz w 48 1 (fin (hd Wg fc l) (.int .u64 v)),fT Wg c w (bd Wg fc l v),zT Wg c w (hd Wg fc (v::l)))
noncomputable def pR (w:Tq)(l:List Int)(v:Int):=(fy w 48 1 (fin (hd Wg fc l) (.int .u64 v)),fR Wg fc c w (bd Wg fc l v) v,zR Wg fc c w (hd Wg fc (v::l)))
theorem zz(w:Tq):zT Wg c w (hd Wg fc [])=zR Wg fc c w (hd Wg fc []):=by kernel_rfl
theorem MF(w:Tq):pT Wg fc c w [] (4* 4294967296)=pR Wg fc c w [] (4* 4294967296):=by kernel_rfl
theorem ME(w:Tq):pT Wg fc c w [4* 4294967296] (3* 4294967296)=pR Wg fc c w [4* 4294967296] (3* 4294967296):=by kernel_rfl
theorem MB(w:Tq):pT Wg fc c w [3* 4294967296,4* 4294967296] (2* 4294967296)=pR Wg fc c w [3* 4294967296,4* 4294967296] (2* 4294967296):=by kernel_rfl
theorem Mt(w:Tq):pT Wg fc c w [2* 4294967296,3* 4294967296,4* 4294967296] (1* 4294967296)=pR Wg fc c w [2* 4294967296,3* 4294967296,4* 4294967296] (1* 4294967296):=by kernel_rfl
theorem Mw(w:Tq):pT Wg fc c w [3* 4294967296,4* 4294967296] (1* 4294967296)=pR Wg fc c w [3* 4294967296,4* 4294967296] (1* 4294967296):=by kernel_rfl
theorem MC(w:Tq):pT Wg fc c w [4* 4294967296] (2* 4294967296)=pR Wg fc c w [4* 4294967296] (2* 4294967296):=by kernel_rfl
theorem Mu(w:Tq):pT Wg fc c w [2* 4294967296,4* 4294967296] (1* 4294967296)=pR Wg fc c w [2* 4294967296,4* 4294967296] (1* 4294967296):=by kernel_rfl
theorem Mx(w:Tq):pT Wg fc c w [4* 4294967296] (1* 4294967296)=pR Wg fc c w [4* 4294967296] (1* 4294967296):=by kernel_rfl
theorem MD(w:Tq):pT Wg fc c w [] (3* 4294967296)=pR Wg fc c w [] (3* 4294967296):=by kernel_rfl
theorem MA(w:Tq):pT Wg fc c w [3* 4294967296] (2* 4294967296)=pR Wg fc c w [3* 4294967296] (2* 4294967296):=by kernel_rfl
theorem Ms(w:Tq):pT Wg fc c w [2* 4294967296,3* 4294967296] (1* 4294967296)=pR Wg fc c w [2* 4294967296,3* 4294967296] (1* 4294967296):=by kernel_rfl
theorem Mv(w:Tq):pT Wg fc c w [3* 4294967296] (1* 4294967296)=pR Wg fc c w [3* 4294967296] (1* 4294967296):=by kernel_rfl
theorem My(w:Tq):pT Wg fc c w [] (2* 4294967296)=pR Wg fc c w [] (2* 4294967296):=by kernel_rfl
theorem Mr(w:Tq):pT Wg fc c w [2* 4294967296] (1* 4294967296)=pR Wg fc c w [2* 4294967296] (1* 4294967296):=by kernel_rfl
theorem Mq(w:Tq):pT Wg fc c w [] (1* 4294967296)=pR Wg fc c w [] (1* 4294967296):=by kernel_rfl
end
section
variable {P:SK}{Wg:Nat}{Stop:Nat->SH->Prop}
theorem Pp{n d d':Nat}{g:SH}(h:∀w,fz w n d g=fy w n d' g):(∀w,fO SC false w n g=fG SC false w n g)/\iS SC false n g=true/\bP (cI SC false n g)=true/\jS SC false n d g=d':=
 ⟨λw=>(d_ (h w)).1,(d_ (h default)).2.1,(d_ (h default)).2.2.1,(d_ (h default)).2.2.2⟩
theorem xd{n d d':Nat}{g:SH}(h:∀w,fz w n d g=fy w n d' g)(hs:∃m,cU SC Stop m d' (cI SC false n g)):∃m,cU SC Stop m d g:=by
 obtain⟨h1,h2,_,h4⟩:=Pp h;exact wD n d g h1 h2 (by rw[h4];exact hs)
theorem IT{n d d':Nat}{g:SH}(h:∀w,fz w n d g=fy w n d' g)(hs:∃m,ii SC Wg Stop m d' (cI SC false n g)):∃m,ii SC Wg Stop m d g:=by
 obtain⟨h1,h2,_,h4⟩:=Pp h;exact acl n d g h1 h2 (by rw[h4];exact hs)
theorem ag3{n:Nat}{g:SH}(h:∀w,yX w n g=yW w n g):∃q,Y5 SC q 0 g:=
 GR n 0 g (λw=>(d_ (h w)).1) (d_ (h default)).2.1 (ML (d_ (h default)).2.2.1 (d_ (h default)).2.2.2)
theorem apZ{d:Nat}{g g':SH}{es:Array Uq}(hr:g.status=.running)(hm:∀e∈es,WH e=true)(h:∀w,stepG P false g w=.go g' w es)(hs:∃m,ii P Wg Stop m (deafBehind d es) g'):∃m,ii P Wg Stop m d g:=by
 obtain⟨m,fX⟩:=hs;exact⟨m+1,.inr ⟨hr,g',es,hm,λw _ _ _=>h w,fX⟩⟩
end
set_option maxRecDepth 100000
theorem t173:(SC.underlying 139).map TypeDesc.agg=some false:=by kernel_rfl
theorem MM{g:SH}{o:Tx}(h:ready g=some o):bP g=true:=by
 obtain⟨_,_,_,_,_,_,_,_,_,_,_,_,_,_,hr⟩:=ready.out h;unfold bP;rw[hr]
theorem yP{g:SH}{f:TN}{vs:Array SO}(h:cy g=some (f,vs)):bP g=true:=by
 obtain⟨_,_,_,h1,_,_⟩:=cy.out h;exact MM h1
theorem OQ{g:SH}{s d:TypeId}{v:SO}(h:oV g=some (s,d,v)):bP g=true:=by
 unfold oV at h;split at h
 ·rename_i ho;exact MM ho
 ·cases h
theorem amw{g:SH}{t:TypeId}{v:SO}(h:uQ g=some (t,v)):bP g=true:=by
 unfold uQ at h;split at h
 ·rename_i ho;exact MM ho
 ·cases h
section
variable {Wg fc c:Nat}{Im:cC}
theorem NX{n:Nat}{g:SH}(hi:Im fc 0=some (.chan (some c)))(h1:cy g=some (123,#[pW Wg 0])) (h3:∀w,fz w n 0 (fin g (.tuple #[]))=fy w n 0 (fin g (.tuple #[])))
  (h4:uQ (cI SC false n (fin g (.tuple #[])))=some (139,pW fc 0)) (h5:qy (cI SC false n (fin g (.tuple #[])))=true)
  (h6:w9 (fin (cI SC false n (fin g (.tuple #[]))) (.chan (some c)))=some (.chan (some c))) (h7:qy (fin (cI SC false n (fin g (.tuple #[]))) (.chan (some c)))=true) (h8:bP (fin (cI SC false n (fin g (.tuple #[]))) (.chan (some c)))=true)
  (h9:mayWake SC (fin (cI SC false n (fin g (.tuple #[]))) (.chan (some c)))=true) (h10:∀w,yX w 4 (fin (fin (cI SC false n (fin g (.tuple #[]))) (.chan (some c))) (.tuple #[]))=yW w 4 (fin (fin (cI SC false n (fin g (.tuple #[]))) (.chan (some c))) (.tuple #[]))):tN SC Im c Wg 0 g:=by
 refine⟨rfl,bP.out (yP h1),_,λw=>G9 .acquire (λ_ _ h=>by cases h) h1 agF,?_⟩;refine xd h3 ⟨0,rfl,bP.out (amw h4),fc,0,_,_,hi,λw hc=> ?_,0,rfl,bP.out h8,h9,_,λw s hw=> ?_,ag3 h10⟩
 ·obtain⟨d,de,ki⟩:=Tp.1 t173;exact aqf h4 de ki (by simpa[qy]using h5) hc
 ·exact aqe h6 (by simpa[qy]using h7) hw
theorem aai{n1 n2:Nat}{g:SH}(h1:∀w,fz w n1 1 g=fy w n1 1 g)(h2:cy (cI SC false n1 g)=some (112,#[])) (h3:∀w,fz w n2 0 (fin (cI SC false n1 g) (.tuple #[]))=fy w n2 0 (fin (cI SC false n1 g) (.tuple #[])))
  (h4:oV (cI SC false n2 (fin (cI SC false n1 g) (.tuple #[])))=some (158,160,pW Wg 0)) (h5:tN SC Im c Wg 0 (fin (cI SC false n2 (fin (cI SC false n1 g) (.tuple #[]))) (pW Wg 0))):∃n,ii SC Wg (tN SC Im c Wg) n 1 g:=by
 refine IT h1 ?_;refine apZ (bP.out (yP h2)) (L8 (.inr rfl)) (λw=>G8 (λ_ h=>by cases h) h2 agC) ?_;refine IT (d:=deafBehind 1 #[⟨.mark .enable,false,true⟩]) h3 ?_;exact acm (bP.out (OQ h4)) (λw x y hW=>G_ h4 ac8 Hg i182 hW.st.1) ⟨0,h5⟩
theorem arX{h:SH}(hi:Im fc 0=some (.chan (some c)))(H:∀w,zT Wg c w h=zR Wg fc c w h):cy h=some (135,#[pW Wg 0])/\∃n,ii SC Wg (tN SC Im c Wg) n 1 (fin h (.int .u64 0)):=by
 have key:∀w,cy h=some ((135:TN),#[pW Wg 0])/\bP h=true/\fz w 31 1 (fin h (.int .u64 0))=fy w 31 1 (fin h (.int .u64 0))/\cy (yq h)=some ((112:TN),(#[]:Array SO))/\fz w 3 0 (fin (yq h) (.tuple #[]))=fy w 3 0 (fin (yq h) (.tuple #[]))/\oV (ND h)=some ((158:TypeId),(160:TypeId),pW Wg 0)/\cy (u9 Wg h)=some ((123:TN),#[pW Wg 0])/\bP (u9 Wg h)=true/\fz w 22 0 (fin (u9 Wg h) (.tuple #[]))=fy w 22 0 (fin (u9 Wg h) (.tuple #[]))/\uQ (Dr Wg h)=some ((139:TypeId),pW fc 0)/\qy (Dr Wg h)=true/\w9 (u_ Wg c h)=some (XS (some c))/\qy (u_ Wg c h)=true/\bP (u_ Wg c h)=true/\mayWake SC (u_ Wg c h)=true/\yX w 4 (HE Wg c h)=yW w 4 (HE Wg c h):=λw=>by
  have:=H w;unfold zT zR at this;simpa only[U0]using this
 obtain⟨k1,k2,_,k4,_,k6,k7,k8,_,CC,Lw,zQ,Lx,CD,Ly,_⟩:=key default;refine⟨k1,aai (n1:=31) (n2:=3) (λw=>(key w).2.2.1) k4 (λw=>(key w).2.2.2.2.1) k6 ?_⟩;exact NX (n:=22) hi k7 (λw=>(key w).2.2.2.2.2.2.2.2.1) CC Lw zQ Lx CD Ly (λw=>(key w).2.2.2.2.2.2.2.2.2.2.2.2.2.2.2)
theorem afZ{b:SH}{v:Nat}(hv:0<v)(hi:Im fc 0=some (.chan (some c)))(H:∀w,fT Wg c w b=fR Wg fc c w b ((v:Int)* 4294967296))(hm:∃n,cU SC (eN SC Im c Wg v) n 1 (LZ b)):Dt SC c Wg Im v 1 b:=by
 have key:∀w,cy b=some ((137:TN),#[pW Wg 0,.int .u64 ((v:Int)* 4294967296),.int .u64 ((v:Int)* 4294967296+1)])/\bP b=true/\fz w 25 1 (fin b (.bool false))=fy w 25 1 (fin b (.bool false))/\fz w 19 1 (fin b (.bool true))=fy w 19 1 (fin b (.bool true))/\oV (f96 b)=some ((165:TypeId),(160:TypeId),pW Wg 1)/\cy (f97 Wg b)=some ((126:TN),#[pW Wg 1])/\bP (f97 Wg b)=true/\fz w 23 1 (fin (f97 Wg b) (.tuple #[]))=fy w 23 1 (fin (f97 Wg b) (.tuple #[]))/\cy (f121 Wg b)=some ((127:TN),#[pW Wg 1,.bool false])/\(f121 Wg b).offers=none/\fz w 16 1 (fin (f121 Wg b) (.tuple #[]))=fy w 16 1 (fin (f121 Wg b) (.tuple #[]))/\cy (f138 Wg b)=some ((135:TN),#[pW Wg 0])/\fz w 11 1 (fin (f138 Wg b) (.int .u64 0))=fy w 11 1 (fin (f138 Wg b) (.int .u64 0))/\cy (f150 Wg b)=some ((112:TN),(#[]:Array SO))/\fz w 3 0 (fin (f150 Wg b) (.tuple #[]))=fy w 3 0 (fin (f150 Wg b) (.tuple #[]))/\oV (f154 Wg b)=some ((158:TypeId),(160:TypeId),pW Wg 0)/\cy (f155 Wg b)=some ((123:TN),#[pW Wg 0])/\bP (f155 Wg b)=true/\fz w 12 0 (fin (f155 Wg b) (.tuple #[]))=fy w 12 0 (fin (f155 Wg b) (.tuple #[]))/\uQ (f168 Wg b)=some ((139:TypeId),pW fc 0)/\qy (f168 Wg b)=true/\w9 (f169 Wg c b)=some (XS (some c))/\qy (f169 Wg c b)=true/\bP (f169 Wg c b)=true/\mayWake SC (f169 Wg c b)=true/\yX w 4 (f170 Wg c b)=yW w 4 (f170 Wg c b):=λw=>by
  have:=H w;unfold fT fR at this;simpa only[U0]using this
 obtain⟨k1,k2,_,_,k5,k6,k7,_,k9,CC,_,zQ,_,CD,_,Lz,LA,k18,_,LB,LC,LD,LF,LH,LI,_⟩:=key default;refine⟨rfl,bP.out k2,⟨_,λw hW=>aqc k1 Pk hW.st.1 hW.st.2.2.1,?_⟩,λu hu=>⟨_,λw hW=>aqd k1 Pk hW.st.1 hW.st.2.2.1 (λe=> ?_),?_⟩⟩
 ·refine IT (λw=>(key w).2.2.2.1) ?_;have hs:SC.underlying 165=some (.pointer (Hh.choose))/\(SC.info? Hh.choose).map (λi=>decide (i.size=0))=some false:=Hh.choose_spec;refine acm (bP.out (OQ k5)) (λw x y hW=>G_ k5 hs.1 Hg hs.2 hW.st.2.1) ⟨0,rfl,bP.out k7,_,λw=>G9 .write (λ_ _ h=>by cases h) k6 agG,?_⟩;refine xd (λw=>(key w).2.2.2.2.2.2.2.1) ⟨0,rfl,bP.out (yP k9),CC,λw st hW=> ?_,fin (f121 Wg b) (.tuple #[]),λw hW=> ?_,?_⟩
  ·exact aqi k9 Ph hW.st.2.1
  ·exact aqg (n:=1) k9 Ph hW.st.2.1 (by decide) hW.st.2.2.2
  ·refine xd (λw=>(key w).2.2.2.2.2.2.2.2.2.2.1) ⟨0,rfl,bP.out (yP zQ),_,λw hW=>M4 zQ IJ hW.st.1,?_⟩;refine aai (n1:=11) (n2:=3) (λw=>(key w).2.2.2.2.2.2.2.2.2.2.2.2.1) CD (λw=>(key w).2.2.2.2.2.2.2.2.2.2.2.2.2.2.1) Lz ?_;exact NX (n:=12) hi LA (λw=>(key w).2.2.2.2.2.2.2.2.2.2.2.2.2.2.2.2.2.2.1) LB LC LD LF LH LI (λw=>(key w).2.2.2.2.2.2.2.2.2.2.2.2.2.2.2.2.2.2.2.2.2.2.2.2.2)
 ·unfold KK at e;omega
 ·exact xd (λw=>(key w).2.2.1) hm
theorem mO(hi:Im fc 0=some (.chan (some c))){h:SH}{k:Nat}(hz:∀w,zT Wg c w h=zR Wg fc c w h)
  (hv:∀v,0<v->v<=k->v<=4->(∀w,fz w 48 1 (fin h (.int .u64 ((v:Int)* 4294967296)))=fy w 48 1 (fin h (.int .u64 ((v:Int)* 4294967296))))/\(∀w,fT Wg c w (f76 h ((v:Int)* 4294967296))=fR Wg fc c w (f76 h ((v:Int)* 4294967296)) ((v:Int)* 4294967296))/\eN SC Im c Wg v 1 (LZ (f76 h ((v:Int)* 4294967296)))):eN SC Im c Wg (k+1) 1 h:=by
 obtain⟨z1,z2⟩:=arX hi hz;rw[eN];refine⟨rfl,bP.out (yP z1),λv h1 h2=> ?_⟩;refine⟨_,λw hW=>M4 z1 IJ hW.st.1,λe=> ?_,λe=> ?_⟩
 ·subst e;exact z2
 ·obtain⟨q1,q2,q3⟩:=hv v (by omega) h1 h2;exact xd q1 ⟨0,afZ (by omega) hi q2 ⟨0,q3⟩⟩
theorem dO{l:List Int}{v:Int}(h:∀w,pT Wg fc c w l v=pR Wg fc c w l v):(∀w,fz w 48 1 (fin (hd Wg fc l) (.int .u64 v))=fy w 48 1 (fin (hd Wg fc l) (.int .u64 v)))/\(∀w,fT Wg c w (bd Wg fc l v)=fR Wg fc c w (bd Wg fc l v) v)/\(∀w,zT Wg c w (hd Wg fc (v::l))=zR Wg fc c w (hd Wg fc (v::l))):=by
 refine⟨λw=>(W2 (h w)).1,λw=>(W2 (W2 (h w)).2).1,λw=>(W2 (W2 (h w)).2).2⟩
end
section
variable (Wg fc c:Nat){Im:cC}
theorem akI(hi:Im fc 0=some (.chan (some c))):eN SC Im c Wg 1 1 (hd Wg fc [1* 4294967296]):=by
 refine mO (k:=0) hi (dO (Mq Wg fc c)).2.2 λv h1 h2 h3=> ?_;omega
theorem akJ(hi:Im fc 0=some (.chan (some c))):eN SC Im c Wg 1 1 (hd Wg fc [1* 4294967296,2* 4294967296]):=by
 refine mO (k:=0) hi (dO (Mr Wg fc c)).2.2 λv h1 h2 h3=> ?_;omega
theorem akQ(hi:Im fc 0=some (.chan (some c))):eN SC Im c Wg 2 1 (hd Wg fc [2* 4294967296]):=by
 refine mO (k:=1) hi (dO (My Wg fc c)).2.2 λv h1 h2 h3=> ?_;rcases(show v=1 by omega)with rfl
 ·exact⟨(dO (Mr Wg fc c)).1,(dO (Mr Wg fc c)).2.1,akJ Wg fc c hi⟩
theorem akN(hi:Im fc 0=some (.chan (some c))):eN SC Im c Wg 1 1 (hd Wg fc [1* 4294967296,3* 4294967296]):=by
 refine mO (k:=0) hi (dO (Mv Wg fc c)).2.2 λv h1 h2 h3=> ?_;omega
theorem akK(hi:Im fc 0=some (.chan (some c))):eN SC Im c Wg 1 1 (hd Wg fc [1* 4294967296,2* 4294967296,3* 4294967296]):=by
 refine mO (k:=0) hi (dO (Ms Wg fc c)).2.2 λv h1 h2 h3=> ?_;omega
theorem akR(hi:Im fc 0=some (.chan (some c))):eN SC Im c Wg 2 1 (hd Wg fc [2* 4294967296,3* 4294967296]):=by
 refine mO (k:=1) hi (dO (MA Wg fc c)).2.2 λv h1 h2 h3=> ?_;rcases(show v=1 by omega)with rfl
 ·exact⟨(dO (Ms Wg fc c)).1,(dO (Ms Wg fc c)).2.1,akK Wg fc c hi⟩
theorem akU(hi:Im fc 0=some (.chan (some c))):eN SC Im c Wg 3 1 (hd Wg fc [3* 4294967296]):=by
 refine mO (k:=2) hi (dO (MD Wg fc c)).2.2 λv h1 h2 h3=> ?_;rcases(show v=1\/v=2 by omega)with rfl|rfl
 ·exact⟨(dO (Mv Wg fc c)).1,(dO (Mv Wg fc c)).2.1,akN Wg fc c hi⟩
 ·exact⟨(dO (MA Wg fc c)).1,(dO (MA Wg fc c)).2.1,akR Wg fc c hi⟩
theorem akP(hi:Im fc 0=some (.chan (some c))):eN SC Im c Wg 1 1 (hd Wg fc [1* 4294967296,4* 4294967296]):=by
 refine mO (k:=0) hi (dO (Mx Wg fc c)).2.2 λv h1 h2 h3=> ?_;omega
theorem akM(hi:Im fc 0=some (.chan (some c))):eN SC Im c Wg 1 1 (hd Wg fc [1* 4294967296,2* 4294967296,4* 4294967296]):=by
 refine mO (k:=0) hi (dO (Mu Wg fc c)).2.2 λv h1 h2 h3=> ?_;omega
theorem akT(hi:Im fc 0=some (.chan (some c))):eN SC Im c Wg 2 1 (hd Wg fc [2* 4294967296,4* 4294967296]):=by
 refine mO (k:=1) hi (dO (MC Wg fc c)).2.2 λv h1 h2 h3=> ?_;rcases(show v=1 by omega)with rfl
 ·exact⟨(dO (Mu Wg fc c)).1,(dO (Mu Wg fc c)).2.1,akM Wg fc c hi⟩
theorem akO(hi:Im fc 0=some (.chan (some c))):eN SC Im c Wg 1 1 (hd Wg fc [1* 4294967296,3* 4294967296,4* 4294967296]):=by
 refine mO (k:=0) hi (dO (Mw Wg fc c)).2.2 λv h1 h2 h3=> ?_;omega
theorem akL(hi:Im fc 0=some (.chan (some c))):eN SC Im c Wg 1 1 (hd Wg fc [1* 4294967296,2* 4294967296,3* 4294967296,4* 4294967296]):=by
 refine mO (k:=0) hi (dO (Mt Wg fc c)).2.2 λv h1 h2 h3=> ?_;omega
theorem akS(hi:Im fc 0=some (.chan (some c))):eN SC Im c Wg 2 1 (hd Wg fc [2* 4294967296,3* 4294967296,4* 4294967296]):=by
 refine mO (k:=1) hi (dO (MB Wg fc c)).2.2 λv h1 h2 h3=> ?_;rcases(show v=1 by omega)with rfl
 ·exact⟨(dO (Mt Wg fc c)).1,(dO (Mt Wg fc c)).2.1,akL Wg fc c hi⟩
theorem akV(hi:Im fc 0=some (.chan (some c))):eN SC Im c Wg 3 1 (hd Wg fc [3* 4294967296,4* 4294967296]):=by
 refine mO (k:=2) hi (dO (ME Wg fc c)).2.2 λv h1 h2 h3=> ?_;rcases(show v=1\/v=2 by omega)with rfl|rfl
 ·exact⟨(dO (Mw Wg fc c)).1,(dO (Mw Wg fc c)).2.1,akO Wg fc c hi⟩
 ·exact⟨(dO (MB Wg fc c)).1,(dO (MB Wg fc c)).2.1,akS Wg fc c hi⟩
theorem akW(hi:Im fc 0=some (.chan (some c))):eN SC Im c Wg 4 1 (hd Wg fc [4* 4294967296]):=by
 refine mO (k:=3) hi (dO (MF Wg fc c)).2.2 λv h1 h2 h3=> ?_;rcases(show v=1\/v=2\/v=3 by omega)with rfl|rfl|rfl
 ·exact⟨(dO (Mx Wg fc c)).1,(dO (Mx Wg fc c)).2.1,akP Wg fc c hi⟩
 ·exact⟨(dO (MC Wg fc c)).1,(dO (MC Wg fc c)).2.1,akT Wg fc c hi⟩
 ·exact⟨(dO (ME Wg fc c)).1,(dO (ME Wg fc c)).2.1,akV Wg fc c hi⟩
theorem hq_(hi:Im fc 0=some (.chan (some c))):eN SC Im c Wg 5 1 (hd Wg fc []):=by
 refine mO (k:=4) hi (zz Wg fc c) λv h1 h2 h3=> ?_;rcases(show v=1\/v=2\/v=3\/v=4 by omega)with rfl|rfl|rfl|rfl
 ·exact⟨(dO (Mq Wg fc c)).1,(dO (Mq Wg fc c)).2.1,akI Wg fc c hi⟩
 ·exact⟨(dO (My Wg fc c)).1,(dO (My Wg fc c)).2.1,akQ Wg fc c hi⟩
 ·exact⟨(dO (MD Wg fc c)).1,(dO (MD Wg fc c)).2.1,akU Wg fc c hi⟩
 ·exact⟨(dO (MF Wg fc c)).1,(dO (MF Wg fc c)).2.1,akW Wg fc c hi⟩
theorem af5(hi:Im fc 0=some (.chan (some c))):HJ SC Im c Wg (born SC ⟨.fn (.func 100) #[pW Wg 0,pW fc 0],#[]⟩):=by
 have h0:∀w,fz w 7 0 (e0 Wg fc)=fy w 7 0 (e0 Wg fc)/\cy (e7 Wg fc)=some ((111:TN),(#[]:Array SO))/\fz w 19 1 (e8 Wg fc)=fy w 19 1 (e8 Wg fc):=λw=>by
  have:=c0 Wg fc w;simpa only[U0]using this
 show ∃n,cU SC (eN SC Im c Wg 5) n 0 (e0 Wg fc);refine xd (λw=>(h0 w).1) ?_;refine MZ (bP.out (yP (h0 default).2.1)) (L8 (.inl rfl)) (λw=>G8 (λ_ h=>by cases h) (h0 default).2.1 II) ?_;exact xd (d:=deafBehind 0 #[⟨.mark .disable,false,true⟩]) (λw=>(h0 w).2.2) ⟨0,hq_ Wg fc c hi⟩
end
open Go.Gg.Tk
section
variable {lv:Bool}{P:SK}{r:Option Nat}{nt:Nat}{E:Env}{V:View}{a:Act}{s:AS}{c:T7}{Q:Ex->Act->View->Prop}
theorem yM(s3:AS)(ah:At E V s a nt)(h:aX lv P r nt c s (λe s'=>match e with|.normal=>s'.Sub s3|_=>False))(hQ:∀E' V' a',Kept E E' V V' a a'->At E' V' s3 a' nt->Q .normal a' V'):WP lv P r c Q a V:=
 h E V a Q ah λae e E' V' a' s' hk aQ he hΦ=>by
  cases ae<;>cases e<;>first
   |exact he.elim
   |exact hΦ.elim
   |exact hQ E' V' a' hk (aQ.sub hΦ)
theorem unwind_mark{lv:Bool}{P:SK}{main:Bool}{J:View->SH->Prop}(C:Closed lv P main J){V:View}{fr:T8}{cs:List T8}{b:Nat}{ds:List UX}(h4:fr.defers={target:=.collected b,args:=#[]}::ds) (hm:(fr.mode matches .run)=false) (ho:V.own b=some (.deferred (some []))) (fe:V.role.chan≠some b) (h:J (V.upd b (.deferred none)) (G {fr with defers:=ds} cs)):J V (G fr cs):=by
 refine C.step _ _ rfl λw hw=> ?_;obtain⟨es,w',V',k1,k2,k3⟩:=(MW (P:=P) ho fe).runs hw;rcases k3 with⟨x,k3,rfl,rfl⟩|⟨_,_,hx⟩
 ·refine⟨G {fr with defers:=ds} cs,w',seen P fr.fn es,_,?_,k1.seen P fr.fn,h⟩;have e:stepG P main (G fr cs) w=unwind P main fr cs none w:=by
   obtain⟨fn,tmps,todo,defers,mode,kind,ro⟩:=fr;cases mode with
   |run=>cases hm
   |returning=>simp[G,stepG]
   |panicking ch=>simp[G,stepG]
  rw[e];simp only[unwind,h4];simp[TB,k3,k2,TZ,G]
 ·exact hx.elim
theorem fP{s s':AS}(h:∀p∈s'.T,∃b,look s.T p.1=some b/\Wk b p.2)(hH:s.H=s'.H):s.Sub s':=⟨λ_ _ e=>h _ (qx e),hH⟩
theorem ud{E:Env}{x v:SO}(h:aq E (.val x) v):v=x:=by cases h;rfl
theorem Eh{E:Env}{cs:Array SO}(h:cN E [] cs):cs=#[]:=Array.size_eq_zero_iff.1 h.1
theorem O5{E:Env}{l:List SO}{cs:Array SO}(h:cN E (l.map .val) cs):cs=l.toArray:=by
 have hs:cs.size=l.length:=by simpa using h.1
 refine Array.ext hs λi h1 h2=> ?_;have hi:i<l.length:=by simpa using h2
 have:=ud (h.2 i (.val l[i]) (by simp[SP hi]));rw[SI,SJ h1]at this;simpa using this
def rP (K:Kn)(b:Nat):List SO:=.bool K.has:: .map (some b)::(K.aA.map (λn:Nat=>SG .u16 n)++(K.hours.map (λn:Nat=>SG .u16 n)++(K.less.map (λn:Nat=>SG .u16 n)++(K.aV.map (λn:Nat=>SG .u16 n)++K.first.map (SG .i64)))))
def rO (K:Kn):Obj:=.map (K.aL.zipIdx.map eI).toArray K.aL.length
theorem agl{E:Env}{K:Kn}{mp:Nat}{v:SO}(h:aq E (.agg (K.l mp)) v):v=.agg (rP K (E.blk mp)).toArray:=by
 cases h with
 |agg hs h=>
  rename_i cs;congr 1;have hl:(K.l mp).length=(rP K (E.blk mp)).length:=by simp[Kn.l,rP]
  have key:∀(i:Nat)(x:AV),(K.l mp)[i]?=some x->∀y,aq E x y->(rP K (E.blk mp))[i]?=some y:=by
   intro i x hx y hy
   match i with
   |0=>cases hx;rw[ud hy];rfl
   |1=>cases hx;cases hy;rfl
   |i+2=>
    have e:(K.l mp)[i+2]?=((K.aA.map (λn:Nat=>SG .u16 n)++(K.hours.map (λn:Nat=>SG .u16 n)++(K.less.map (λn:Nat=>SG .u16 n)++(K.aV.map (λn:Nat=>SG .u16 n)++K.first.map (SG .i64))))).map AV.val)[i]?:=by
     simp[Kn.l,wv,iv,Yy]
    rw[e,Tj]at hx;obtain⟨z,h1,rfl⟩:=Tp.1 hx;rw[ud hy];exact h1
  have mj:cs.size=(rP K (E.blk mp)).length:=hs.trans hl;refine Array.ext mj λi h1 h2=> ?_;have hi:i<(K.l mp).length:=by omega
  have:=key i _ (SP hi) _ (h i _ (SP hi));rw[SI,SJ h1]at this;have h3:(rP K (E.blk mp)).toArray[i]?=some cs[i]:=by simpa using this
  rw[SJ h2]at h3;exact(VX h3).symm
def qD (x:aj)(deep:Int)(bh:Nat):Spec:=λv _ Ow=>∃b,v=.agg (rP (gL x deep bh) b).toArray/\∀b',Ow b'=if b'=b then some (rO (gL x deep bh))else none
set_option maxRecDepth 100000 in
theorem an8:SC.funcs.size=184:=by kernel_rfl
theorem Ns{x:aj}{deep:Int}{bh:Nat}(hx:x.Ok)(hA:∀h∈kG x bh,mD h/\∀ns∈f_ x h,∀a∈(iy x h ns).map (di h ns),jv x a):bF (gL x deep bh):=by
 unfold gL;refine Jf hx (λt ht=> ?_) CF;obtain⟨h,h1,h2⟩:=S6.1 ht;obtain⟨ns,h3,h4⟩:=Nj h2;exact(hA h h1).2 ns h3 t h4
theorem arN{J:View->SH->Prop}(C:yr SC false J){E:Env}{V:View}{x:aj}{bh c Wg:Nat}{deep:Int}{rv tv dv fv:SO}(hx:x.Ok)(lS:bh<=3)(hA:∀h∈kG x bh,mD h/\∀ns∈f_ x h,∀a∈(iy x h ns).map (di h ns),jv x a)(ajE:Conc E V [])
  (hr:aq E (.rp x.l) rv) (ht:aq E (.rp [iv bh]) tv) (hd:aq E (.rp [iv deep]) dv) (hf:aq E (.rp [.val (.chan (some c))]) fv) (bY:V.role=.work c Wg [qD x deep bh]) (eQ:V.deaf=0):J V (born SC ⟨.fn (.func 97) #[pW Wg 0,rv,tv,dv,fv],#[]⟩):=by
 have C':Closed false SC false J:={C with more:=λh=>by cases h};unfold born;rw[an8];refine adb C' (fr:={(default:T8)with fn:=184,defers:=[⟨.fn (.func 97) #[pW Wg 0,rv,tv,dv,fv],#[]⟩],mode:=.panicking [goexitEntry]}) (ds:=[]) rfl rfl (by kernel_rfl) ?_;refine agQ (Q:=λa' V'=>∃b,a'.defers=[{target:=.collected b,args:=#[]},⟨.fn (.func 98) #[],#[pW Wg 0]⟩]/\V'.own b=some (.deferred (some []))/\V'.role=.work c Wg []/\V'.deaf=0) C' (by simp) F.f97 rfl ?_ ?_
 rotate_left
 ·rintro a' V' todo ⟨b,h1,h0,h2,h3⟩
  refine unwind_mark C' (ds:=[⟨.fn (.func 98) #[],#[pW Wg 0]⟩]) h1 rfl h0 (by rw[h2];simp[m_.chan]) ?_;refine adb C' (ds:=[]) rfl rfl (by kernel_rfl) ?_;exact agv Wg a'.tmps todo C h2 h3
 have cP:cN E [.val (pW Wg 0),.rp x.l,.rp [iv bh],.rp [iv deep],.rp [.val (.chan (some c))]] (#[]++#[pW Wg 0,rv,tv,dv,fv]):=by
  refine⟨rfl,λi a e=> ?_⟩
  match i,e with
  |0,e=>cases e;exact .val _
  |1,e=>cases e;exact hr
  |2,e=>cases e;exact ht
  |3,e=>cases e;exact hd
  |4,e=>cases e;exact hf
 have ah:=A9 (nt:=25) ajE cP (by simp);simp only[br,SX]at ah;refine wp_seq ?_;refine(Ol (nt:=25) (n:=0) (ds:=[]) (Φ:=λe s' nk=>e=.normal/\s'=⟨[(0,.val (pW Wg 0)),(1,.rp x.l),(2,.rp [iv bh]),(3,.rp [iv deep]),(4,.rp [.val (.chan (some c))])],[]⟩/\nk=[(.fn (.func 98) [] [],[.val (pW Wg 0)])]) rfl rfl rfl rfl rfl rfl (by kernel_rfl) ?_) E V _ _ ah trivial λae e E1 V1 a1 s1 ds1 gV vP de BY h1=> ?_
 ·(try simp only[seval]);exact⟨_,_,_,rfl⟩
 obtain⟨rfl,rfl,rfl⟩:=h1;cases e<;>first
  |exact BY.elim
  |skip
 have ajN:a1.defers=[⟨.fn (.func 98) #[],#[pW Wg 0]⟩]:=by
  match fH:a1.defers,de with
  |[d],de=>
   obtain⟨⟨f,first,cV,fa,ca,vs,q1,rfl,q3,q4,q5⟩,_⟩:=de;cases q1;rw[Eh q3,Eh q4,O5 (l:=[pW Wg 0]) q5];rfl
  |[],de=>exact de.elim
  |_::_::_,de=>exact de.2.elim
 refine wp_seq ?_;refine yM ⟨[(5,.op 1 0),(0,.val (pW Wg 0)),(1,.rp x.l),(2,.rp [iv bh]),(3,.rp [iv deep]),(4,.rp [.val (.chan (some c))])],[setH [],.cells (Kn.zero.l 0) 88]⟩ vP ?_ λE2 V2 a2 ce un=> ?_
 ·refine ai ?_;exact fP (by simp only[seval];simp[bA,Wk.refl]) rfl
 refine wp_seq (wp_seq ?_);refine yM ⟨uM x bh deep c (pW Wg 0),wh x bh Kn.zero⟩ un ?_ λE3 V3 a3 v7 ov=> ?_
 ·have bO:x.l=[iv x.first,iv x.hours,iv x.an,ek x.seen,bi x.pieces,bi x.aB]:=rfl;refine ak ?_;simp only[seval,bO];refine aK ((IZ (x:=x) (n:=bh) ?_));(try simp only[seval]);exact fP (by unfold uM;simp only[seval];simp[bA,Wk.refl];exact Wk.refl _) rfl
 have ajO:a3.defers=[⟨.fn (.func 98) #[],#[pW Wg 0]⟩]:=v7.defers.trans (ce.defers.trans ajN);have akX:V3.role=.work c Wg [qD x deep bh]:=v7.role.trans (ce.role.trans (gV.role.trans bY));have ajI:V3.deaf=0:=v7.deaf.trans (ce.deaf.trans (gV.deaf.trans eQ));refine aly (lv:=false) (bs:=[⟨.fn (.func 98) #[],#[pW Wg 0]⟩]) hx lS hA (λe s' cH=>e=.normal/\s'=⟨uM x bh deep c (pW Wg 0),wh x bh (gL x deep bh)++[.obj (.deferred (some [])),.gone]⟩/\cH=[4]) ⟨rfl,rfl,rfl⟩ E3 V3 a3 _ ov ⟨by simp[ajO],by simp⟩ λae e E4 V4 a4 s4 ms4 ry rj akj he4 hΦ4=> ?_;obtain⟨rfl,rfl,rfl⟩:=hΦ4;cases e<;>first
  |exact he4.elim
  |skip
 have ajP:a4.defers=[{target:=.collected (E4.blk 4),args:=#[]},⟨.fn (.func 98) #[],#[pW Wg 0]⟩]:=akj.1;have akY:V4.role=.work c Wg [qD x deep bh]:=ry.role.trans akX;have QQ:V4.deaf=0:=ry.deaf.trans ajI;have xo:bF (gL x deep bh):=Ns hx hA;generalize hW:gL x deep bh=W at rj xo;have EM:=Kn.len xo 0;refine Hq (K:=λs'=>look s'.T 23=some (.val (.chan (some c)))/\look s'.T 24=some (.agg (W.l 0))/\s'.Sub ⟨uM x bh deep c (pW Wg 0),wh x bh W++[.obj (.deferred (some [])),.gone]⟩) 2 1 rfl (by kernel_rfl) rj ?_ λE5 V5 a5 s5 gz kg hK=> ?_
 ·unfold uM wh;(try simp only[seval,EM]);rw[SY (i:=28) (by omega)];exact⟨rfl,fP (by simp only[seval];simp[bA,Wk.refl]) rfl⟩
 obtain⟨l23,l24,lR⟩:=hK;have EP:=kg.sub lR;have e23:a5.eval (.tmp 23)=.chan (some c):=ud (kg.tok _ _ l23).2;have e24:a5.eval (.tmp 24)=.agg (rP W (E5.blk 0)).toArray:=agl (kg.tok _ _ l24).2;have h0:V5.own (E5.blk 0)=some (rO W):=(EP.bm.obj 0 (setH W.aL) rfl).1;have h4:V5.own (E5.blk 4)=some (.deferred (some [])):=(EP.bm.obj 4 (.obj (.deferred (some []))) rfl).1;have aC:E5.blk 4≠E5.blk 0:=λe=>by rw[e,h0]at h4;cases h4
 have hb4:E5.blk 4=E4.blk 4:=gz.le.blk 4 (by rw[rj.bm.n];simp[wh]);refine Nv rfl rfl ?_;refine⟨c,Wg,qD x deep bh,[],λb=>decide (b=E5.blk 0),e23,by rw[gz.role];exact akY,gz.deaf.trans QQ,⟨E5.blk 0,by rw[hW];exact e24,λb'=> ?_⟩,?_⟩
 ·rw[hW];by_cases hb:b'=E5.blk 0
  ·subst hb;simp[h0]
  ·simp[hb]
 ·refine⟨trivial,E5.blk 4,?_,?_,rfl,gz.deaf.trans QQ⟩
  ·rw[hb4];exact gz.defers.trans ajP
  ·show (if decide (E5.blk 4=E5.blk 0)=true then none else V5.own (E5.blk 4))=_;rw[if_neg (by simpa using aC)];exact h4
theorem anN(r:Option Nat):AV.parts (.val (.chan r))=some [.val (.chan r)]:=rfl
theorem ar0(r:Option Nat):l6 (.chan r)=[.val (.chan r)]:=rfl
theorem alX(r:Option Nat):AV.leaf (.val (.chan r))=true:=rfl
theorem Nt{x y:T7}{t:Nat}{b:Bool}(ah:At E V s a nt)(hl:look s.T t=some (.val (.bool b)))(h:WP lv P r (if b then x else y) Q a V):WP lv P r (.cond (.tmp t) x y) Q a V:=by
 have hd:=(ah.tok t _ hl).2;generalize hx:a.tmps.getD t undef=v at hd;cases hd;exact wp_cond (t:=b) hx h
end
theorem O1{E:Env}{f:Fn}{first cV:List AV}{v:SO}(h:aq E (.fn f first cV) v):∃fa ca,v=.func f fa ca/\cN E first fa/\cN E cV ca:=by
 cases h with
 |fn dD fY h1 h2=>exact⟨_,_,rfl,⟨dD,h1⟩,⟨fY,h2⟩⟩
theorem Bh{E:Env}{i o:Nat}{v:SO}(h:aq E (.op i o) v):v=.pointer (some ⟨E.blk i,o,none⟩):=by cases h;rfl
theorem Gj(x:aj)(n:Nat):∀a∈x.l,Lt n a:=by
 intro a ha;simp only[aj.l,SL,S4,or_false]at ha;rcases ha with rfl|rfl|rfl|rfl|rfl|rfl
 ·exact .val _
 ·exact .val _
 ·exact .val _
 ·rw[aaG];trivial
 ·rw[Gh];trivial
 ·rw[Gh];trivial
theorem amF(x:aj):Lt 0 (.rp x.l):=by
 rw[x_];exact Gj x 0
set_option maxRecDepth 100000 in
theorem wgT:Nn SC=147:=by kernel_rfl
def ci:T7->T7
 |.block _ c|.loop c|.scope c=>c
 |_=> .skip
noncomputable def uN:T7:=XQ.body.getD .skip
noncomputable def mr:T7:=cs (cs (cs uN))
def sD:Obj:=.chan 0 #[] false 0 0 false
def jp:List AV:=bv false:: .val (.map none)::(TL 15 (wv 0)++TL 11 (iv 0))
def du (x:aj)(deep:Int)(c:Nat):List aa:=[.part 6 x.l 76,.part 1 [iv deep] 3,.cells jp 88,.part 1 [.val (.chan (some c))] 139,.gone]
structure ju (x:aj)(deep:Int)(Hs:List aa)(E:Env)(c Wg:Nat)(rv dv fv:SO)(T:List (Nat×AV))(M:List aa)(E':Env)(V':View)(a':Act):Prop where
 ah:At E' V' ⟨T,Hs++(du x deep c++M)⟩ a' 35
 lo:E.Lo E'
 main:E'.main=false
 defers:a'.defers=[]
 deaf:V'.deaf=0
 er:rv=.pointer (some ⟨E'.blk Hs.length,0,none⟩)
 ed:dv=.pointer (some ⟨E'.blk (Hs.length+1),0,none⟩)
 ef:fv=.pointer (some ⟨E'.blk (Hs.length+3),0,none⟩)
 dr:aq E' (.rp x.l) rv
 dd:aq E' (.rp [iv deep]) dv
 df:aq E' (.rp [.val (.chan (some c))]) fv
 fr:∀b y,E.fr b=some y->E'.fr b=some y/\b≠c/\b≠Wg
 ne:c≠Wg
section
variable {x:aj}{deep:Int}{Hs:List aa}{E:Env}{c Wg:Nat}{rv dv fv:SO}{T T':List (Nat×AV)}{M M' G:List aa}{E1 E2:Env}{V1 V2:View}{a1 a2:Act}
theorem ju.Ha(h:ju x deep Hs E c Wg rv dv fv T M E1 V1 a1)(le:E1.Le E2)(bz:a2.defers=a1.defers)(eQ:V2.deaf=V1.deaf)(ah:At E2 V2 ⟨T',Hs++(du x deep c++M')⟩ a2 35):ju x deep Hs E c Wg rv dv fv T' M' E2 V2 a2:=by
 have hl:∀i,i<5->Hs.length+i<E1.n:=λi hi=>by rw[h.ah.bm.n];simp[du];omega
 exact⟨ah,h.lo.trans le.lo,le.main.trans h.main,bz.trans h.defers,eQ.trans h.deaf,by have:=le.blk _ (hl 0 (by omega));rw[UK]at this;rw[this];exact h.er,by rw[le.blk _ (hl 1 (by omega))];exact h.ed,by rw[le.blk _ (hl 3 (by omega))];exact h.ef,h.dr.mono le,h.dd.mono le,h.df.mono le,λb y e=>by rw[le.fr];exact h.fr b y e,h.ne⟩
theorem ju.step(h:ju x deep Hs E c Wg rv dv fv T M E1 V1 a1)(hk:Kept E1 E2 V1 V2 a1 a2)(ah:At E2 V2 ⟨T',Hs++(du x deep c++M')⟩ a2 35):ju x deep Hs E c Wg rv dv fv T' M' E2 V2 a2:=h.Ha hk.le hk.defers hk.deaf ah
theorem ju.to(T':List (Nat×AV))(M':List aa)(h:ju x deep Hs E c Wg rv dv fv T M E1 V1 a1){cd:T7}{Q:Ex->Act->View->Prop}(hw:aX true SC none 35 cd ⟨T,Hs++(du x deep c++M)⟩ (λe s'=>match e with|.normal=>s'.Sub ⟨T',Hs++(du x deep c++M')⟩|_=>False))
  (hQ:∀E2 V2 a2,Kept E1 E2 V1 V2 a1 a2->ju x deep Hs E c Wg rv dv fv T' M' E2 V2 a2->Q .normal a2 V2):WP true SC none cd Q a1 V1:=
 yM ⟨T',Hs++(du x deep c++M')⟩ h.ah hw λE2 V2 a2 hk ah=>hQ E2 V2 a2 hk (h.step hk ah)
theorem ju.cut(h:ju x deep Hs E c Wg rv dv fv T (M++G) E1 V1 a1)(hE:E.n<=Hs.length)(hT:∀p∈T',∃b,look T p.1=some b/\Wk b p.2/\Lt (Hs.length+5+M.length) p.2)(am:bQ (Hs++(du x deep c++M))):ju x deep Hs E c Wg rv dv fv T' M {E1 with n:=Hs.length+5+M.length} V1 a1:=by
 have hlen:(Hs++(du x deep c++M)).length=Hs.length+5+M.length:=by simp[du];omega
 have hc:=h.ah.cut (s':=⟨T',Hs++(du x deep c++M)⟩) ⟨λt a e=>by
  obtain⟨b,h1,h2,h3⟩:=hT _ (qx e);exact⟨b,h1,h2,by rw[hlen];exact h3⟩,⟨G,by simp⟩,am⟩
 simp only[hlen]at hc;exact⟨hc,h.lo.cut (by omega),h.main,h.defers,h.deaf,h.er,h.ed,h.ef,h.dr.trim (by rw[x_];exact Gj x _),h.dd.trim (by simp[x_,eG]),h.df.trim (by simp[x_,eG]),h.fr,h.ne⟩
theorem aah(hH:bQ Hs)(hM:∀z∈M,fj (Hs.length+5+M.length) z):bQ (Hs++(du x deep c++M)):=by
 intro y hy;have hlen:(Hs++(du x deep c++M)).length=Hs.length+5+M.length:=by simp[du];omega
 rw[hlen];rcases SV.1 hy with h|h
 ·exact(hH y h).mono (by omega)
 ·rcases SV.1 h with h|h
  ·simp only[du,SL,S4,or_false]at h;rcases h with rfl|rfl|rfl|rfl|rfl
   ·exactλa ha=>Gj x _ a ha
   ·intro a ha;simp at ha;subst ha;exact .val _
   ·intro a ha;simp only[jp,SL,SV,Xy]at ha;rcases ha with rfl|rfl|⟨_,rfl⟩|⟨_,rfl⟩<;>exact .val _
   ·intro a ha;simp at ha;subst ha;exact .val _
   ·trivial
  ·exact hM y h
end
def oL (x:aj)(deep:Int)(i:Nat):List (List Spec):=(S0 i).map λk=>[qD x deep k]
theorem M1(x:aj)(deep:Int)(i:Nat):(oL x deep i).length=i:=by simp[oL]
theorem ap3(x:aj)(deep:Int)(i:Nat):oL x deep (i+1)=oL x deep i++[[qD x deep i]]:=by simp[oL,Vk]
def wV (x:aj):Prop:=∀bh,bh<=3->∀h∈kG x bh,mD h/\∀ns∈f_ x h,∀a∈(iy x h ns).map (di h ns),jv x a
noncomputable def jy (Hs:List aa)(Wg:Nat)(n:Int)(i:Nat):List (Nat×AV):=[(16,iv i),(15,iv n),(6,.val (pW Wg 0)),(5,.op (Hs.length+3) 0),(4,.op (Hs.length+2) 0),(3,.op (Hs.length+1) 0),(2,.op Hs.length 0)]
structure ve (x:aj)(deep:Int)(Hs:List aa)(E:Env)(c Wg:Nat)(rv dv fv:SO)(i:Nat)(T:List (Nat×AV))(M:List aa)(E':Env)(V':View)(a':Act):Prop where
 ok:ju x deep Hs E c Wg rv dv fv T M E' V' a'
 role:V'.role=.fork c Wg (oL x deep i)
 Ew:E'.fr c=some sD
 Bs:E'.fr Wg=some (wgBlock SC ((i:Int)* 4294967296) 0)
section
variable {x:aj}{deep n:Int}{Hs:List aa}{E:Env}{c Wg i:Nat}{rv dv fv:SO}{T T':List (Nat×AV)}{M M':List aa}{E1 E2:Env}{V1 V2:View}{a1 a2:Act}
theorem ve.step(h:ve x deep Hs E c Wg rv dv fv i T M E1 V1 a1)(hk:Kept E1 E2 V1 V2 a1 a2)(hc:ju x deep Hs E c Wg rv dv fv T' M' E2 V2 a2):ve x deep Hs E c Wg rv dv fv i T' M' E2 V2 a2:=
 ⟨hc,hk.role.trans h.role,by rw[hk.le.fr];exact h.Ew,by rw[hk.le.fr];exact h.Bs⟩
theorem alM(hx:x.Ok)(hA:wV x)(zd:E.n<=Hs.length)(am:bQ (Hs++(du x deep c++[])))(h:ve x deep Hs E c Wg rv dv fv i (jy Hs Wg n i) [] E1 V1 a1)(hi:i<=3){cd:T7}{Q:Ex->Act->View->Prop}(hcd:cd=cs (cs (ci (ci (cs (cf mr))))))
  (hQ:∀E2 V2 a2,ve x deep Hs E c Wg rv dv fv (i+1) (jy Hs Wg n (i+1)) [] E2 V2 a2->Q .normal a2 V2):WP true SC none cd Q a1 V1:=by
 subst hcd;refine wp_seq (wp_block (wp_seq ?_));refine h.ok.to ((7,.op (Hs.length+5) 0)::jy Hs Wg n i) [.cells [iv i] 3] ?_ λE2 V2 a2 ce cE=> ?_
 ·unfold jy du;refine ai ?_;exact fP (by simp only[seval];simp[bA,Wk.refl]) rfl
 have h2:=h.step ce cE;obtain⟨V3,g3,o3,r3,d3,F',Ir,OX⟩:=cE.ah.bm.GP (id:=Hs.length+5) (by rw[aW];rfl) 1 (by simp);rw[ez]at Ir;have Kr:Kept E2 {E2 with I:=V3.ab} V2 V3 a2 a2:=⟨F',rfl,rfl,r3,d3⟩;have dS:=cE.step (T':=(7,.op (Hs.length+5) 0)::jy Hs Wg n i) (M':=[.part 1 [iv i] 3]) Kr ⟨Ir,cE.ah.tok.mono F',cE.ah.size⟩;have h3:=h2.step Kr dS;refine WP.ghost g3 ?_;generalize{E2 with I:=V3.ab}=E3 at F' Ir OX Kr dS h3;have e6:a2.eval (.tmp 6)=pW Wg 0:=ud (dS.ah.tok 6 (.val (pW Wg 0)) rfl).2;obtain⟨w1,w2,w3⟩:=dS.ah.bm.fr Wg _ h3.Bs;have hrc:V3.role.chan≠some Wg:=by rw[h3.role];intro e;cases e;exact dS.ne rfl
 refine wp_seq (adl rfl rfl (anw rfl rfl (by kernel_rfl) ?_));have cP:(#[ZB 6,atG (.int .i64 1)]:Array Tl).map a2.eval=#[pW Wg 0,.int .i64 1]:=by
  simp only[List.map_toArray,UW,List.map_nil,e6];rfl
 rw[cP];refine(aer (n:=i) (sm:=Nn SC) (by omega) w1 w2 hrc dS.deaf).mono λo V4 hV=> ?_;obtain⟨rfl,rfl⟩:=hV;dsimp only;refine arR ?_;let wK:Obj:=wgBlock SC (((i+1:Nat):Int)* 4294967296) 0;show WP true SC none _ _ (a2.put (some 19) (.tuple #[])) (V3.upd Wg wK);have sE:=dS.ah.bm.aiQ h3.Bs wK;let f4:Nat->Option Obj:=λb'=>if b'=Wg then some wK else E3.fr b';have mc:ju x deep Hs E c Wg rv dv fv ((7,.op (Hs.length+5) 0)::jy Hs Wg n i) [.part 1 [iv i] 3] (E3.frame f4) (V3.upd Wg wK) (a2.put (some 19) (.tuple #[])):=by
  refine⟨⟨sE,λt av e=> ?_,(dP a2 (some 19) _).trans dS.ah.size⟩,dS.lo.trans (Env.Ge E3 f4),dS.main,(put_defers a2 _ _).trans dS.defers,dS.deaf,dS.er,dS.ed,dS.ef,dS.dr.frame f4,dS.dd.frame f4,dS.df.frame f4,λb y e=> ?_,dS.ne⟩
  ·have aC:t≠19:=by
    intro et;subst et;simp[jy,look]at e
   have:=((dS.ah.tok.frame f4).put (d:=19) (a:=.aJ []) (v:=.tuple #[]) (by rw[dS.ah.size];omega) (.aJ rfl (by simp))) t av (by simp only[look];rw[if_neg (Ne.symm aC)];exact e);exact this
  ·obtain⟨q1,q2,q3⟩:=dS.fr b y e;exact⟨by show (if b=Wg then _ else _)=_;rw[if_neg q3];exact q1,q2,q3⟩
 have O_:aq (E3.frame f4) (.rp [iv i]) (.pointer (some ⟨(E3.frame f4).blk (Hs.length+5),0,none⟩)):=by
  have hl:Hs.length+5<E2.n:=by rw[cE.ah.bm.n];simp[du]
  have e:(E3.frame f4).blk (Hs.length+5)=E2.blk (Hs.length+5):=F'.blk _ hl;rw[e];exact OX.frame f4
 have GX:(V3.upd Wg wK).role=.fork c Wg (oL x deep i):=h3.role;have P5:(E3.frame f4).fr c=some sD:=by
  show (if c=Wg then _ else _)=_;rw[if_neg dS.ne];exact h3.Ew
 have P6:(E3.frame f4).fr Wg=some wK:=by
  show (if Wg=Wg then _ else _)=_;rw[if_pos rfl]
 generalize E3.frame f4=E4 at mc O_ P5 P6;generalize V3.upd Wg wK=V4 at mc GX;generalize a2.put (some 19) (.tuple #[])=a4 at mc;clear sE;refine Hq (K:=λs'=>look s'.T 20=some (.fn (.func 97) [] [.val (pW Wg 0),.op Hs.length 0,.op (Hs.length+5) 0,.op (Hs.length+1) 0,.op (Hs.length+3) 0])/\s'.Sub ⟨jy Hs Wg n i,Hs++(du x deep c++[.part 1 [iv i] 3])⟩) 1 1 rfl (by kernel_rfl) mc.ah ?_ λE5 V5 a5 s5 gz kg hK=> ?_
 ·unfold jy du;(try simp only[seval,Ue,UF,Uf,TS]);exact fP (by simp only[seval];simp[bA,Wk.refl]) rfl
 obtain⟨l20,lR⟩:=hK;have EP:=kg.sub lR;have cF:=mc.step gz EP;have C2:V5.role=.fork c Wg (oL x deep i):=gz.role.trans GX;have vI:E5.fr c=some sD:=by rw[gz.le.fr];exact P5
 have Bt:E5.fr Wg=some wK:=by rw[gz.le.fr];exact P6
 have dk5:=O_.mono gz.le;have qe:Hs.length+5<E4.n:=by rw[mc.ah.bm.n];simp[du]
 refine Nv rfl rfl ?_;obtain⟨c1,c2,c3⟩:=cF.ah.bm.fr c _ vI;obtain⟨v1,v2,v3⟩:=cF.ah.bm.fr Wg _ Bt;have e20:a5.eval (.tmp 20)=.func (.func 97) #[] #[pW Wg 0,rv,.pointer (some ⟨E5.blk (Hs.length+5),0,none⟩),dv,fv]:=by
  obtain⟨fa,ca,q1,q2,q3⟩:=O1 (kg.tok 20 _ l20).2;rw[Eh q2]at q1;refine q1.trans ?_;have KR:ca.size=5:=q3.1;have k0:=ud (q3.2 0 _ rfl);have k1:=Bh (q3.2 1 _ rfl);have k2:=Bh (q3.2 2 _ rfl);have k3:=Bh (q3.2 3 _ rfl);have k4:=Bh (q3.2 4 _ rfl);rw[<- cF.er]at k1;rw[<- cF.ed]at k3;rw[<- cF.ef]at k4;congr 1;refine Array.ext KR λj h1 h2=> ?_;have hj:j=0\/j=1\/j=2\/j=3\/j=4:=by omega
  rw[SI,SJ (by omega)]at k0 k1 k2 k3 k4;rcases hj with rfl|rfl|rfl|rfl|rfl
  ·exact k0
  ·exact k1
  ·exact k2
  ·exact k3
  ·exact k4
 refine⟨rfl,.tmp 20,97,#[],_,rfl,e20,cF.deaf,.inl ⟨c,Wg,oL x deep i,qD x deep i,[],C2,c1,?_,?_,v2,λJ0 C=> ?_,?_⟩⟩
 ·rw[v1,M1]
 ·rw[M1];omega
 ·have hb:E5.blk (Hs.length+5)=E4.blk (Hs.length+5):=gz.le.blk _ qe;rw[hb];have:=arN (J:=J0) (V:={ab:=V5.ab,own:=λ_=>none,deaf:=0,role:=.work c Wg [qD x deep i]}) C hx hi (hA i hi) (af8 cF.ah.bm.I rfl rfl) (cF.dr.bare (amF x)) (dk5.bare (by simp[x_,eG])) (cF.dd.bare (by simp[x_,eG])) (cF.df.bare (by simp[x_,eG])) rfl rfl;simpa using this
 let V6:View:={V5 with role:=.fork c Wg (oL x deep i++[[qD x deep i]])};have Is:Conc (E5.frame E5.fr) V6 (Hs++(du x deep c++[.part 1 [iv i] 3])):=by
  refine cF.ah.bm.yh (V':=V6) _ rfl (λ_ _ _ _ _ _ h=>h) (λg hg=> ?_) (λg hg=> ?_) (λhm=>by rw[cF.main]at hm;cases hm) cF.ah.bm.fr
  ·cases hg;exact⟨by show V5.own Wg≠none;rw[v1];simp,v2,v3⟩
  ·cases hg;exact⟨by show V5.own c≠none;rw[c1];simp,c2,c3⟩
 have ow:ju x deep Hs E c Wg rv dv fv (jy Hs Wg n i) [.part 1 [iv i] 3] E5 V6 (a5.put none undef):=⟨⟨Is,cF.ah.tok,cF.ah.size⟩,cF.lo,cF.main,cF.defers,cF.deaf,cF.er,cF.ed,cF.ef,cF.dr,cF.dd,cF.df,cF.fr,cF.ne⟩;show WP true SC none _ _ (a5.put none undef) V6;refine ow.to (jy Hs Wg n (i+1)) [.part 1 [iv i] 3] ?_ λE7 V7 a7 oA BS=> ?_
 ·unfold jy du;have hw:SF.wrap ((i:Int)+1)=(i:Int)+1:=bI _ (by omega);refine ak ?_;simp only[seval,hw];exact fP (by simp only[seval];simp[bA,Wk.refl]) rfl
 have eK:=ju.cut (M:=[]) (T':=jy Hs Wg n (i+1)) BS zd (by
  unfold jy;simp only[Xi,S4,false_imp_iff,implies_true,and_true,look,Zw,if_false,if_true,Tm,exists_eq_left',Wk.refl,true_and,eG,aaC,UQ];omega) am
 refine hQ _ V7 a7 ⟨eK,?_,?_,?_⟩
 ·rw[oA.role,ap3]
 ·show E7.fr c=_;rw[oA.le.fr];exact vI
 ·show E7.fr Wg=_;rw[oA.le.fr];exact Bt
end
namespace Tk
theorem aby{hs:List (List Int)}{h:List Int}(hn:hs.Nodup):(jG hs h).Nodup:=by
 unfold jG;split
 ·exact hn
 ·rename_i hm;rw[U8];exact⟨hn,by simp,λa ha b hb=>by rw[Tb.1 hb];exactλe=>hm (e▸ha)⟩
theorem aqU{x:aj}{deep:Int}{Q:Kn}{t:List Int}(hn:Q.aL.Nodup):(ej x deep Q t).aL.Nodup:=by
 have hB:(jQ Q t).aL.Nodup:=by unfold jQ;split<;>exact hn
 unfold ej;dsimp only;generalize jQ Q t=R at hB;split
 ·exact hB
 ·split
  ·exact aby hB
  ·exact hB
theorem arL{x:aj}{deep:Int}{bh:Nat}:(gL x deep bh).aL.Nodup:=by
 unfold gL;have key:∀(ts:List (List Int))(Q:Kn),Q.aL.Nodup->(ts.foldl (ej x deep) Q).aL.Nodup:=by
  intro ts;induction ts with
  |nil=>exactλQ h=>h
  |cons t ts ih=>exactλQ h=>ih _ (aqU h)
 exact key _ _ WN
theorem PT:∀{l hs:List (List Int)},(∀y∈hs,y.length=4)->(∀y∈l,y.length=4)->∀y∈l.foldl jG hs,y.length=4
 |[],hs,h1,_=>h1
 |a::l,hs,h1,h2=>by rw[UY];exact PT (abw h1 (h2 a (by simp))) (λy hy=>h2 y (by simp[hy]))
theorem GC{l m:List Nat}(h:l.length=m.length):(kP l m).length=l.length:=by simp[kP,h]
theorem GD{l m:List Nat}(h1:∀n∈l,n<65536)(h2:∀n∈m,n<65536):∀n∈kP l m,n<65536:=λn hn=>by
 unfold kP at hn;rw[UP]at hn;obtain⟨i,hi⟩:=hn;rw[List.getElem?_zipWith]at hi;cases ha:l[i]?with
 |none=>rw[ha]at hi;cases hi
 |some a=>
  cases hb:m[i]?with
  |none=>rw[ha,hb]at hi;cases hi
  |some b=>
   rw[ha,hb]at hi;cases hi;exact pD (h1 _ (Tf ha)) (h2 _ (Tf hb))
theorem SA{F G:Kn}{hs:List (List Int)}(hF:bF F)(hG:bF G)(hp:hs.Perm G.aL):bF (fJ F hs G):=by
 unfold fJ;split
 ·refine⟨(GC (by rw[hF.aA,hG.aA])).trans hF.aA,(GC (by rw[hF.hours,hG.hours])).trans hF.hours,(GC (by rw[hF.less,hG.less])).trans hF.less,(GC (by rw[hF.aV,hG.aV])).trans hF.aV,?_,GD hF.mv hG.mv,GD hF.mb hG.mb,GD hF.lV hG.lV,GD hF.lX hG.lX,PT hF.h4 λy hy=>hG.h4 y (hp.mem_iff.1 hy)⟩;split
  ·exact hG.first
  ·exact hF.first
 ·exact hF
inductive nZ (x:aj)(deep:Int):List Nat->Kn->Prop where
 |nil:nZ x deep [] Kn.zero
 |snoc {js:List Nat} {F:Kn} {j:Nat} {hs:List (List Int)} (h:nZ x deep js F) (hp:hs.Perm (gL x deep j).aL):nZ x deep (js++[j]) (fJ F hs (gL x deep j))
end Tk
theorem wV.work{x:aj}{deep:Int}{j:Nat}(hA:wV x)(hx:x.Ok)(hj:j<=3):bF (gL x deep j):=Ns hx (hA j hj)
def mX (x:aj)(deep:Int)(n:Nat)(js:List Nat):List (List Spec):=(S0 n).map λk=>if k∈js then[]else[qD x deep k]
theorem ap6(x:aj)(deep:Int)(n:Nat):mX x deep n []=oL x deep n:=by simp[mX,oL]
theorem ap5{x:aj}{deep:Int}{n j:Nat}{js:List Nat}{sp:Spec}{S:List Spec}(h:(mX x deep n js)[j]?=some (sp::S)):j<n/\j∉js/\sp=qD x deep j/\S=[]:=by
 unfold mX at h;rw[Tj]at h;obtain⟨k,h1,h2⟩:=Tp.1 h;have hk:j<n/\k=j:=by
  have:=SN.1 h1;obtain⟨h3,h4⟩:=this;simp at h3 h4;exact⟨h3,h4.symm⟩
 obtain⟨h3,rfl⟩:=hk;split at h2
 ·cases h2
 ·rename_i hm;cases h2;exact⟨h3,hm,rfl,rfl⟩
theorem ap7{x:aj}{deep:Int}{n j:Nat}{js:List Nat}:(mX x deep n js).set j []=mX x deep n (js++[j]):=by
 apply Yo;intro k;unfold mX;rw[UT,Tj,Tj,To,List.length_range];by_cases hk:k<n
 ·rw[Xz hk];by_cases hj:j=k
  ·subst hj;rw[if_pos rfl,if_pos hk];simp
  ·rw[if_neg hj];have e:(k∈js++[j])<->k∈js:=by
    rw[SV,Tb];exact⟨λh=>h.elim id λe=>absurd e.symm hj,.inl⟩
   simp only[UN,e]
 ·have e:(S0 n)[k]?=none:=Uu (by simp;omega);rw[e];by_cases hj:j=k
  ·subst hj;rw[if_pos rfl,if_neg hk];rfl
  ·rw[if_neg hj];rfl
theorem ap4{x:aj}{deep:Int}{n:Nat}{js:List Nat}(h:∀S∈mX x deep n js,S=[]):∀k,k<n->k∈js:=λk hk=>by
 apply Tt;intro hn;have:=h [qD x deep k] (Tn.2 ⟨k,by simpa using hk,by rw[if_neg hn]⟩);cases this
theorem alK{E:Env}{K:Kn}{mp b:Nat}(hb:E.blk mp=b)(hm:mp<E.n):aq E (.agg (K.l mp)) (.agg (rP K b).toArray):=by
 subst hb;refine .agg (by simp[Kn.l,rP]) λi a e=> ?_
 match i with
 |0=>cases e;exact .val _
 |1=>cases e;exact .mp hm
 |i+2=>
  have e':(K.l mp)[i+2]?=((K.aA.map (λn:Nat=>SG .u16 n)++(K.hours.map (λn:Nat=>SG .u16 n)++(K.less.map (λn:Nat=>SG .u16 n)++(K.aV.map (λn:Nat=>SG .u16 n)++K.first.map (SG .i64))))).map AV.val)[i]?:=by
   simp[Kn.l,wv,iv,Yy]
  rw[e',Tj]at e;obtain⟨z,h1,rfl⟩:=Tp.1 e;have h2:(rP K (E.blk mp))[i+2]?=some z:=h1;rw[SI,Ve,h2];exact .val _
theorem tr(K:Kn)(mp:Nat):∀a∈K.l mp,a.leaf=true:=λa ha=>by
 simp only[Kn.l,SL,SV,Tn]at ha;rcases ha with rfl|rfl|⟨_,_,rfl⟩|⟨_,_,rfl⟩|⟨_,_,rfl⟩|⟨_,_,rfl⟩|⟨_,_,rfl⟩<;>rfl
theorem afb{lv:Bool}{P:SK}{r:Option Nat}{nt:Nat}{E:Env}{V:View}{a:Act}{s:AS}{c:T7}{Q:Ex->Act->View->Prop}{α:Type}(p:α->Prop)(S3:α->AS)(ah:At E V s a nt)(h:aX lv P r nt c s (λe s'=>match e with|.normal=>∃q,p q/\s'.Sub (S3 q)|_=>False))(hQ:∀q E' V' a',p q->Kept E E' V V' a a'->At E' V' (S3 q) a' nt->Q .normal a' V'):WP lv P r c Q a V:=
 h E V a Q ah λae e E' V' a' s' hk aQ he hΦ=>by
  cases ae<;>cases e<;>first
   |exact he.elim
   |exact hΦ.elim
   |(obtain⟨q,h1,h2⟩:=hΦ
     exact hQ q E' V' a' h1 hk (aQ.sub h2))
theorem agn{E:Env}(l:List SO):aq E (.agg (l.map .val)) (.agg l.toArray):=by
 refine .agg (by simp) λi a e=> ?_;rw[Tj]at e;obtain⟨z,h1,rfl⟩:=Tp.1 e;rw[SI,Ve,h1];exact .val _
def NF:List SO:=.bool false:: .map none::(TL 15 (.int .u16 0)++TL 11 (.int .i64 0))
def iu (Hs:List aa)(F:Kn):List aa:=[setH F.aL,.cells (F.l (Hs.length+5)) 88]
noncomputable def jn (Hs:List aa):List (Nat×AV):=[(8,.op (Hs.length+6) 0),(5,.op (Hs.length+3) 0),(4,.op (Hs.length+2) 0)]
structure DM (x:aj)(deep:Int)(n:Nat)(Hs:List aa)(E:Env)(c Wg:Nat)(rv dv fv:SO)(js:List Nat)(F:Kn)(T:List (Nat×AV))(G:List aa)(E':Env)(V':View)(a':Act):Prop where
 ok:ju x deep Hs E c Wg rv dv fv T (iu Hs F++G) E' V' a'
 role:V'.role=.recv c Wg (mX x deep n js)
 aaa:nZ x deep js F
 kn:bF F
 nodup:js.Nodup
 lt:∀j∈js,j<n
noncomputable def aag:T7:=ci (ci (cs (cs (cs mr))))
theorem alL{x:aj}{deep:Int}{Hs:List aa}{c:Nat}{F:Kn}(hH:bQ Hs):bQ (Hs++(du x deep c++iu Hs F)):=by
 refine aah hH λz hz=> ?_;simp only[iu,SL,S4,or_false]at hz;rcases hz with rfl|rfl
 ·trivial
 ·exact xY (by simp[iu])
theorem amM{V:View}{Im:cC}{b:Nat}{K:Kn}{w:Tq}(hS:Sat V w)(hI:∀b o x,Im b o=some x->w.cell? ⟨b,o,none⟩=some x)(hb:w.heap[b]?=some (rO K)):∀o,V.ab b o=none/\Im b o=none:=λo=>by
 have hc:w.cell? ⟨b,o,none⟩=none:=by simp[Uy,hb,rO]
 constructor
 ·cases h:V.ab b o with
  |none=>rfl
  |some v=>have:=hS.ab b o v h;rw[hc]at this;cases this
 ·cases h:Im b o with
  |none=>rfl
  |some v=>have:=hI b o v h;rw[hc]at this;cases this
section
variable {x:aj}{deep:Int}{n:Nat}{Hs:List aa}{E:Env}{c Wg:Nat}{js:List Nat}{D:Kn}{rv dv fv:SO}{T T':List (Nat×AV)}{G G':List aa}{E1 E2:Env}{V1 V2:View}{a1 a2:Act}
theorem alN(hx:x.Ok)(hA:wV x)(Rx:n<=4)(zd:E.n<=Hs.length)(cp:bQ Hs)(h:DM x deep n Hs E c Wg rv dv fv js D (jn Hs) [] E1 V1 a1){Q:Ex->Act->View->Prop}
  (hQ:∀j D' E2 V2 a2,j∉js->DM x deep n Hs E c Wg rv dv fv (js++[j]) D' (jn Hs) [] E2 V2 a2->Q .normal a2 V2)
  (EL:∀E2 V2 a2 G,At E2 V2 ⟨[(4,.op (Hs.length+2) 0)],Hs++([.part 6 x.l 76,.part 1 [iv deep] 3,.cells (D.l (Hs.length+5)) 88,.part 1 [.val (.chan (some c))] 139,.gone,setH D.aL]++G)⟩ a2 35->E.Lo E2->a2.defers=[]->V2.deaf=0->V2.role=.plain->(∀b y,E.fr b=some y->E2.fr b=some y)->(∀k,k<n->k∈js)->Q .ret a2 V2):WP true SC none aag Q a1 V1:=by
 refine wp_block (id:=3) (wp_seq ?_);refine Hq (K:=λs'=>look s'.T 26=some (.val (.chan (some c)))/\s'.Sub ⟨jn Hs,Hs++(du x deep c++(iu Hs D++[]))⟩) 1 7 rfl (by kernel_rfl) h.ok.ah ?_ λE3 V3 a3 s3 v7 ov hK=> ?_
 ·unfold jn du iu;(try simp only[seval]);exact fP (by simp only[seval];simp[bA,Wk.refl]) rfl
 obtain⟨l26,lR⟩:=hK;have dS:=h.ok.step v7 (ov.sub lR);have ro3:V3.role=.recv c Wg (mX x deep n js):=v7.role.trans h.role;have e26:a3.eval (.tmp 26)=.chan (some c):=ud (ov.tok 26 _ l26).2;obtain⟨ti,wb,hzi⟩:=S_.1 F.NT;refine arQ rfl rfl (.inr ?_);refine⟨rfl,c,Wg,mX x deep n js,.both,88,ti,_,e26,by kernel_rfl,wb,hzi,ro3,dS.deaf,λj sp S v Im Ow r1 r2 r3 r4 r5=> ?_,λhS=> ?_⟩
 ·
  obtain⟨o_,gU,rfl,rfl⟩:=ap5 r1;obtain⟨b,hv,Jz⟩:=r2;have xo:bF (gL x deep j):=hA.work hx (by omega);have Qt:(gL x deep j).aL.Nodup:=arL;obtain⟨W,hW⟩:∃W,W=gL x deep j:=⟨_,rfl⟩;rw[<- hW]at hv Jz xo Qt;let pL:View:={V3 with ab:=λb o=>match V3.ab b o with|some x=>some x|none=>Im b o,role:=.recv c Wg ((mX x deep n js).set j [])};obtain⟨aak,OP⟩:=dS.ah.bm.amc (V':=pL) rfl (λb o v e=>by show (match V3.ab b o with|some x=>some x|none=>Im b o)=some v;rw[e]) (λb o hb e=>by
   show (match V3.ab b o with|some x=>some x|none=>Im b o)=none;rw[e];apply Tt;intro aC;exact absurd e (r4 b o hb aC)) rfl rfl (λhm=>by rw[dS.main]at hm;cases hm)
  have Jy:Ow b=some (rO W):=by rw[Jz];simp
  obtain⟨w,hSw,hIw,hww⟩:=r5;have jd:=amM hSw hIw (hww b _ Jy);have jg:V3.own b=none:=by
   apply Tt;intro aC;have:=r3 b aC;rw[Jy]at this;cases this
  have J5:pL.fresh b:=⟨jg,λo=>by
   show (match V3.ab b o with|some x=>some x|none=>Im b o)=none;rw[(jd o).1];exact(jd o).2⟩
  have akd:E3.n=Hs.length+7:=by rw[dS.ah.bm.n];simp[du,iu]
  have sE:=OP.add J5 (rO W) (x:=.obj (rO W)) ⟨by rw[Env.dL];simp[View.upd],rfl,rfl,λo=>by rw[Env.dL];exact J5.2 o⟩ (λb' e=>by
   simp only[bN,Env.dL,Tm]at e;exact e.symm)
  have Qq:pL.upd b (rO W)={V3 with ab:=λb o=>match V3.ab b o with|some x=>some x|none=>Im b o,own:=λb=>match V3.own b with|some x=>some x|none=>Ow b,role:=.recv c Wg ((mX x deep n js).set j [])}:=by
   have:(λb'=>if b'=b then some (rO W)else V3.own b')=λb=>match V3.own b with|some x=>some x|none=>Ow b:=by
    funext b';by_cases hb:b'=b
    ·subst hb;rw[if_pos rfl,jg,Jy]
    ·rw[if_neg hb];cases dq:V3.own b' with
     |some y=>rfl
     |none=>simp[Jz,hb]
   show View.mk _ _ _ _=View.mk _ _ _ _;congr 1
  have Qi:(({E3 with I:=pL.ab}:Env).add b pL.ab).blk (Hs.length+7)=b:=by rw[<- akd];exact Env.dL ({E3 with I:=pL.ab}:Env) b _
  have LP:E3.Le (({E3 with I:=pL.ab}:Env).add b pL.ab):=aak.trans (Env.qw _ b λ_ _ _ e=>e);have akk:(({E3 with I:=pL.ab}:Env).add b pL.ab).n=Hs.length+8:=by show E3.n+1=_;omega
  rw[Qq]at sE;generalize hE4:(({E3 with I:=pL.ab}:Env).add b pL.ab)=E4 at sE Qi LP akk;have bp:aq E4 (.aJ [.agg (W.l (Hs.length+7)),bv true]) (.tuple #[v,.bool true]):=by
   subst hv;refine .aJ rfl λq a e=> ?_
   match q,e with
   |0,e=>cases e;exact alK Qi (by omega)
   |1,e=>cases e;exact .val _
  have ajk:Hs++(du x deep c++(iu Hs D++[]))++[aa.obj (rO W)]=Hs++(du x deep c++(iu Hs D++[setH W.aL])):=by simp[setH,rO]
  rw[ajk]at sE;clear Qq hE4 OP aak J5;generalize Qr:({V3 with ab:=λb o=>match V3.ab b o with|some x=>some x|none=>Im b o,own:=λb=>match V3.own b with|some x=>some x|none=>Ow b,role:=.recv c Wg ((mX x deep n js).set j [])}:View)=V4 at sE;have GX:V4.role=.recv c Wg (mX x deep n (js++[j])):=by rw[<- Qr];show m_.recv c Wg _=_;rw[ap7]
  have de4:V4.deaf=V3.deaf:=by rw[<- Qr]
  have rj:At E4 V4 ⟨(27,.aJ [.agg (W.l (Hs.length+7)),bv true])::jn Hs,Hs++(du x deep c++(iu Hs D++[setH W.aL]))⟩ (a3.put (some 27) (.tuple #[v,.bool true])) 35:=⟨sE,(dS.ah.tok.mono LP).put (by rw[dS.ah.size];omega) bp,(dP a3 (some 27) _).trans dS.ah.size⟩;have mc:ju x deep Hs E c Wg rv dv fv ((27,.aJ [.agg (W.l (Hs.length+7)),bv true])::jn Hs) (iu Hs D++[setH W.aL]) E4 V4 (a3.put (some 27) (.tuple #[v,.bool true])):=
   dS.Ha LP (put_defers a3 _ _) de4 rj
  have EM:=Kn.len xo (Hs.length+7);refine Nw ⟨(10,bv true)::(9,.op (Hs.length+8) 0)::jn Hs,Hs++(du x deep c++(iu Hs D++[setH W.aL,.cells (W.l (Hs.length+7)) 88]))⟩ rfl (by kernel_rfl) rj ?_ λE5 V5 a5 gz kg=> ?_
  ·unfold jn du iu;(try simp only[seval,EM]);exact⟨tr _ _,fP (by simp only[seval];simp[bA,Wk.refl]) rfl⟩
  have cF:=mc.step gz kg;have C2:V5.role=.recv c Wg (mX x deep n (js++[j])):=gz.role.trans GX;refine wp_seq (wp_seq ?_);refine cF.to ((31,bv false)::(9,.op (Hs.length+8) 0)::jn Hs) (iu Hs D++[setH W.aL,.cells (W.l (Hs.length+7)) 88]) ?_ λE6 V6 a6 Kq ow=> ?_
  ·unfold jn du iu;refine ai ?_;exact fP (by simp only[seval];simp[bA,Wk.refl]) rfl
  refine Nt ow.ah rfl ?_;refine wp_skip ?_;refine afb (λhs:List (List Int)=>hs.Perm W.aL) (λhs=>⟨jn Hs,Hs++(du x deep c++(iu Hs (fJ D hs W)++[setH W.aL,.cells (W.l (Hs.length+7)) 88]))⟩) ow.ah ?_ λhs E7 V7 a7 KG oA JI=> ?_
  ·unfold jn du iu;refine ak ?_;simp only[seval,EM];rw[SY (i:=28) (by omega)];refine aK ((ahh (fp:=Hs.length+6) (mp:=Hs.length+5) (mg:=Hs.length+7) h.kn xo (by omega) (by omega) (by rw[aW];rfl) (by rw[aW];rfl) (by rw[aW];rfl) Qt ?_));intro hs hp;rw[ez,ez];(try simp only[seval]);exact⟨hs,hp,fP (by simp only[seval];simp[bA,Wk.refl]) rfl⟩
  have BS:=ow.step oA JI;have eK:=ju.cut (T':=jn Hs) BS zd (by
   unfold jn iu;simp only[Xi,S4,false_imp_iff,implies_true,and_true,look,Zw,if_false,if_true,Tm,exists_eq_left',Wk.refl,true_and,aaC,Uh,UQ];omega) (alL cp)
  have gT:nZ x deep (js++[j]) (fJ D hs W):=by
   rw[hW]at KG⊢;exact h.aaa.snoc KG
  refine hQ j (fJ D hs W) _ V7 a7 gU ⟨by rw[SZ];exact eK,?_,gT,SA h.kn xo KG,?_,?_⟩
  ·rw[oA.role,Kq.role];exact C2
  ·rw[U8];exact⟨h.nodup,by simp,λa ha b hb=>by rw[Tb.1 hb];exactλe=>gU (e▸ha)⟩
  ·intro k hk;rcases SV.1 hk with h'|h'
   ·exact h.lt k h'
   ·rw[Tb.1 h'];exact o_
 ·
  have dX:=ap4 hS;let V4:View:={V3 with role:=.plain};have sE:Conc (E3.frame E3.fr) V4 (Hs++(du x deep c++(iu Hs D++[]))):=
   dS.ah.bm.yh (V':=V4) _ rfl (λ_ _ _ _ _ _ h=>h) (λg hg=>by cases hg) (λg hg=>by cases hg) (λhm=>by rw[dS.main]at hm;cases hm) dS.ah.bm.fr
  have bp:aq E3 (.aJ [.agg jp,bv false]) (.tuple #[.agg NF.toArray,.bool false]):=by
   refine .aJ rfl λq a e=> ?_
   match q,e with
   |0,e=>cases e;exact agn NF
   |1,e=>cases e;exact .val _
  have rj:At E3 V4 ⟨(27,.aJ [.agg jp,bv false])::jn Hs,Hs++(du x deep c++(iu Hs D++[]))⟩ (a3.put (some 27) (.tuple #[.agg NF.toArray,.bool false])) 35:=⟨sE,dS.ah.tok.put (by rw[dS.ah.size];omega) bp,(dP a3 (some 27) _).trans dS.ah.size⟩;have mc:=dS.Ha (V2:=V4) (Env.Le.refl E3) (put_defers a3 (some 27) _) rfl rj;have oE:jp.length=28:=rfl;have bR:=Kn.len h.kn (Hs.length+5);refine Nw ⟨(10,bv false)::jn Hs,Hs++(du x deep c++(iu Hs D++[.cells jp 88]))⟩ rfl (by kernel_rfl) rj ?_ λE5 V5 a5 gz kg=> ?_
  ·unfold jn du iu;(try simp only[seval,oE]);exact⟨λa ha=>by simp only[jp,SL,SV,Xy]at ha;rcases ha with rfl|rfl|⟨_,rfl⟩|⟨_,rfl⟩<;>rfl,fP (by simp only[seval];simp[bA,Wk.refl]) rfl⟩
  have cF:=mc.step gz kg;refine wp_seq (wp_seq ?_);refine cF.to ((31,bv true)::jn Hs) (iu Hs D++[.cells jp 88]) ?_ λE6 V6 a6 Kq ow=> ?_
  ·unfold jn du iu;refine ai ?_;exact fP (by simp only[seval];simp[bA,Wk.refl]) rfl
  refine Nt ow.ah rfl ?_;refine wp_seq ?_;refine yM ⟨[(4,.op (Hs.length+2) 0)],Hs++([.part 6 x.l 76,.part 1 [iv deep] 3,.cells (D.l (Hs.length+5)) 88,.part 1 [.val (.chan (some c))] 139,.gone,setH D.aL]++[.cells (D.l (Hs.length+5)) 88,.cells jp 88])⟩ ow.ah ?_ λE7 V7 a7 oA JI=> ?_
  ·unfold jn du iu;refine ak ?_;simp only[seval,bR,oE];rw[SY (i:=28) (l:=D.l (Hs.length+5)) (by omega)];exact⟨bR,by omega,tr _ _,fP (by simp only[seval];simp[bA,Wk.refl]) (by rw[bR,TO (by rw[oE];exact SU _),SZ])⟩
  refine wp_ret ?_;exact EL E7 V7 a7 _ JI (ow.lo.trans oA.le.lo) (oA.defers.trans ow.defers) (oA.deaf.trans ow.deaf) (oA.role.trans (Kq.role.trans gz.role)) (λb y e=>by rw[oA.le.fr];exact(ow.fr b y e).1) dX
end
open Go.Conc Go.Proofs Go.Gg.Tk
theorem ao7{P:SK}{rs:List UM}{fn:YD}{nt:Nat}{k kp:AV->List aa->Prop}{E E':Env}{V V':View}{H L G:List aa}{T:List (Nat×AV)}{a':Act}{av:AV}(hr:fn.results=rs.toArray)(ah:At E' V' ⟨T,H.map strip++(L++G)⟩ a' nt)(pc:E.Lo E')(hc:Conc E V H)(bY:V'.role=V.role)(eQ:V'.deaf=V.deaf)(hf:∀b y,E.fr b=some y->E'.fr b=some y)
  (gA:g_ P ⟨T,H.map strip++(L++G)⟩ rs=some [av]) (hL:L.map strip=L) (am:bQ (H.map strip++L)) (hlt:Lt (H.length+L.length) av) (hk:k av (H++L)):∃v,aR P V' (results fn a'.tmps) (λx aP=>x=v/\aP=V') (λ_ _=>False)/\gO E V k kp (.ret v) V':=by
 obtain⟨vs,hl,lT,xL⟩:=GV ah rs [av] gA;obtain⟨v,rfl⟩:∃v,vs=[v]:=List.length_eq_one_iff.1 hl;have bp:aq E' av v:=lT 0 av rfl;have qn:aR P V' (results fn a'.tmps) (λx aP=>x=v/\aP=V') (λ_ _=>False):=by
  unfold results;rw[hr,X4];refine az ?_;refine az (xL ?_);refine ay (ay ⟨?_,rfl⟩);simp
 have JQ:=ah.bm;dsimp only at JQ;rw[<- SD]at JQ;have eK:=JQ.trim (H:=H.map strip++L) (G:=G) am;have hlen:(H.map strip++L).length=H.length+L.length:=by simp
 rw[hlen]at eK;have uy:(H++L).map strip=H.map strip++L:=by rw[TF,hL]
 rw[<- uy]at eK;refine⟨v,qn,av,((({E' with n:=H.length+L.length}:Env).fu E.main).frame E.fr),H++L,?_,bY,eQ,?_,eK.aoY E.main E.fr (λk e=> ?_) (λe=>by rw[bY,eQ];exact hc.top e) hf,hk⟩
 ·refine Env.Lo.le (E':={E' with n:=H.length+L.length}) ⟨pc.I,?_,pc.blk,pc.fD,pc.room⟩;show E.n<=H.length+L.length;rw[hc.n];omega
 ·exact((bp.trim hlt).fu E.main).frame E.fr
 ·by_cases B6:k<H.length
  ·rw[SW B6]at e;exact hc.obj k _ e
  ·rw[Tg (by omega)]at e;have h2:(L.map strip)[k-H.length]?=some .gone:=(by rw[Tj,e];rfl);rw[hL,e]at h2;cases h2
section
variable {x:aj}{deep:Int}{Hs:List aa}{E:Env}{c Wg p:Nat}{rv dv fv:SO}{T:List (Nat×AV)}{E1:Env}{V1:View}{a1:Act}
theorem alO(hx:x.Ok)(hA:wV x)(hp:x.an=p)(zd:E.n<=Hs.length)(cp:bQ Hs)(h:ve x deep Hs E c Wg rv dv fv 0 [(6,.val (pW Wg 0)),(5,.op (Hs.length+3) 0),(4,.op (Hs.length+2) 0),(3,.op (Hs.length+1) 0),(2,.op Hs.length 0)] [] E1 V1 a1){Q:Ex->Act->View->Prop}
  (hQ:∀js D E2 V2 a2 G,js.Perm (S0 (p+1))->nZ x deep js D->bF D->At E2 V2 ⟨[(4,.op (Hs.length+2) 0)],Hs++([.part 6 x.l 76,.part 1 [iv deep] 3,.cells (D.l (Hs.length+5)) 88,.part 1 [.val (.chan (some c))] 139,.gone,setH D.aL]++G)⟩ a2 35->E.Lo E2->a2.defers=[]->V2.deaf=0->V2.role=.plain->(∀b y,E.fr b=some y->E2.fr b=some y)->Q .ret a2 V2):WP true SC none mr Q a1 V1:=by
 have hp3:p<=3:=by have:=hx.an;omega
 have akw:bQ (Hs++(du x deep c++[])):=aah cp (by simp);refine wp_seq (x:=cf mr) (wp_seq (x:=cf (cf mr)) ?_);refine h.ok.to (jy Hs Wg ((p+1:Nat):Int) 0) [] ?_ λE2 V2 a2 ce cE=> ?_
 ·show aX true SC none 35 (cf (cf mr)) _ _;unfold jy du;have bO:x.l=[iv x.first,iv x.hours,iv x.an,ek x.seen,bi x.pieces,bi x.aB]:=rfl;have hw:SF.wrap (x.an+1)=((p+1:Nat):Int):=by rw[hp,bI _ (by omega)];rfl
  refine ak ?_;simp only[seval,bO,hw];exact fP (by simp only[seval];simp[bA,Wk.refl]) rfl
 have h2:ve x deep Hs E c Wg rv dv fv 0 (jy Hs Wg ((p+1:Nat):Int) 0) [] E2 V2 a2:=h.step ce cE;refine wp_block (id:=0) (c:=.loop (ci (ci (cs (cf mr))))) ?_;refine wp_loop (λm a' V'=>∃E' i,m=p+1-i/\i<=p+1/\ve x deep Hs E c Wg rv dv fv i (jy Hs Wg ((p+1:Nat):Int) i) [] E' V' a') (p+1) ⟨E2,0,rfl,by omega,h2⟩ λm a3 V3 hI=> ?_;obtain⟨E3,i,rfl,hi,h3⟩:=hI;refine wp_seq (x:=cf (ci (ci (cs (cf mr))))) (y:=cs (ci (ci (cs (cf mr))))) ?_;refine h3.ok.to ((17,bv (decide ((i:Int)<((p+1:Nat):Int))))::jy Hs Wg ((p+1:Nat):Int) i) [] ?_ λE4 V4 a4 ry mc=> ?_
 ·show aX true SC none 35 (cf (ci (ci (cs (cf mr))))) _ _;unfold jy du;refine ai ?_;exact fP (by simp only[seval];simp[bA,Wk.refl]) rfl
 have rc:=h3.step ry mc;refine wp_seq (x:=.cond (.tmp 17) .skip (.exit 0)) (y:=cs (cs (ci (ci (cs (cf mr)))))) (Nt mc.ah rfl ?_);by_cases Q5:i<p+1
 ·rw[show decide ((i:Int)<((p+1:Nat):Int))=true from decide_eq_true (by omega)];refine wp_skip ?_;have ajt:ju x deep Hs E c Wg rv dv fv (jy Hs Wg ((p+1:Nat):Int) i) [] E4 V4 a4:=mc.Ha (Env.Le.refl E4) rfl rfl (mc.ah.sub (fP (by unfold jy du;simp only[seval];simp[bA,Wk.refl]) rfl));exact alM hx hA zd akw ⟨ajt,rc.role,rc.Ew,rc.Bs⟩ (by omega) rfl λE5 V5 a5 h5=>⟨p+1-(i+1),by omega,E5,i+1,rfl,by omega,h5⟩
 have cS:i=p+1:=by omega
 subst cS;rw[show decide ((((p+1:Nat):Int))<((p+1:Nat):Int))=false by simp];refine wp_exit ?_;refine wp_seq (x:=cf (cs mr)) (y:=cs (cs mr)) ?_;refine Hq (K:=λs'=>look s'.T 22=some (.fn (.func 100) [] [.val (pW Wg 0),.op (Hs.length+3) 0])/\s'.Sub ⟨[(5,.op (Hs.length+3) 0),(4,.op (Hs.length+2) 0)],Hs++(du x deep c++[])⟩) 1 1 rfl (by kernel_rfl) mc.ah ?_ λE5 V5 a5 s5 gz kg hK=> ?_
 ·unfold jy du;(try simp only[seval,Ue,UF,Uf,TS]);exact fP (by simp only[seval];simp[bA,Wk.refl]) rfl
 obtain⟨LJ,lR⟩:=hK;have cF:=mc.step gz (kg.sub lR);have C2:V5.role=.fork c Wg (oL x deep (p+1)):=gz.role.trans rc.role;have vI:E5.fr c=some sD:=by rw[gz.le.fr];exact rc.Ew
 have Bt:E5.fr Wg=some (wgBlock SC (((p+1:Nat):Int)* 4294967296) 0):=by rw[gz.le.fr];exact rc.Bs
 obtain⟨c1,c2,c3⟩:=cF.ah.bm.fr c _ vI;obtain⟨v1,v2,v3⟩:=cF.ah.bm.fr Wg _ Bt;have e22:a5.eval (.tmp 22)=.func (.func 100) #[] #[pW Wg 0,fv]:=by
  obtain⟨fa,ca,q1,q2,q3⟩:=O1 (kg.tok 22 _ LJ).2;rw[Eh q2]at q1;refine q1.trans ?_;have fY:ca.size=2:=q3.1;have k0:=ud (q3.2 0 _ rfl);have k1:=Bh (q3.2 1 _ rfl);rw[<- cF.ef]at k1;congr 1;refine Array.ext fY λj h1 h2=> ?_;have hj:j=0\/j=1:=by omega
  rw[SI,SJ (by omega)]at k0 k1;rcases hj with rfl|rfl
  ·exact k0
  ·exact k1
 have hfc:V5.ab (E5.blk (Hs.length+3)) 0=some (.chan (some c)):=by
  have bz:=cF.df;rw[cF.ef]at bz;generalize hp:(Value.pointer (some ⟨E5.blk (Hs.length+3),0,none⟩))=pv at bz;cases bz with
  |rp b o f h1 h2=>
   cases hp;have:=h1 0 (by simp);rw[cF.ah.bm.I]at this;rw[UK]at this;rw[this,ud (h2 0 _ rfl)]
 refine Nv rfl rfl ?_;refine⟨rfl,.tmp 22,100,#[],_,rfl,e22,cF.deaf,.inr ⟨c,Wg,_,C2,cF.ne,c1,?_,c2,v2,?_,?_⟩⟩
 ·rw[v1,M1]
 ·have:=af5 Wg (E5.blk (Hs.length+3)) c (Im:=V5.ab) hfc;rw[cF.ef];simpa[pW]using this
 let V6:View:={V5 with own:=λb=>if b=c\/b=Wg then none else V5.own b,role:=.recv c Wg (oL x deep (p+1))};let f6:Nat->Option Obj:=λb=>if b=c\/b=Wg then none else E5.fr b;have Is:Conc (E5.frame f6) V6 (Hs++(du x deep c++[])):=by
  refine cF.ah.bm.yh (V':=V6) _ rfl (λb z k w hk kE hz=> ?_) (λg hg=>by cases hg) (λg hg=>by cases hg) (λhm=>by rw[cF.main]at hm;cases hm) (λb y hb=> ?_)
  ·have n1:b≠c:=cF.ah.bm.CU vI hk kE;have n2:b≠Wg:=cF.ah.bm.CU Bt hk kE;show (if b=c\/b=Wg then none else V5.own b)=some z;rw[if_neg (λe=>e.elim n1 n2)];exact hz
  ·by_cases zl:b=c\/b=Wg
   ·simp only[f6,if_pos zl]at hb;cases hb
   ·simp only[f6,if_neg zl]at hb;obtain⟨q1,q2,q3⟩:=cF.ah.bm.fr b y hb;refine⟨?_,q2,q3⟩;show (if b=c\/b=Wg then none else V5.own b)=some y;rw[if_neg zl];exact q1
 have ow:ju x deep Hs E c Wg rv dv fv [(5,.op (Hs.length+3) 0),(4,.op (Hs.length+2) 0)] [] (E5.frame f6) V6 (a5.put none undef):=by
  refine⟨⟨Is,cF.ah.tok.frame _,cF.ah.size⟩,cF.lo.trans (Env.Ge E5 f6),cF.main,cF.defers,cF.deaf,cF.er,cF.ed,cF.ef,cF.dr.frame f6,cF.dd.frame f6,cF.df.frame f6,λb y e=> ?_,cF.ne⟩;obtain⟨q1,q2,q3⟩:=cF.fr b y e;refine⟨?_,q2,q3⟩;show (if b=c\/b=Wg then none else E5.fr b)=some y;rw[if_neg (λe=>e.elim q2 q3)];exact q1
 show WP true SC none (.seq (cf (cs (cs mr))) (cs (cs (cs mr)))) Q (a5.put none undef) V6;refine wp_seq ?_;refine ow.to (jn Hs) (iu Hs Kn.zero) ?_ λE7 V7 a7 oA BS=> ?_
 ·show aX true SC none 35 (cf (cs (cs mr))) _ _;unfold jn du iu;refine ai ?_;exact fP (by simp only[seval];simp[bA,Wk.refl]) rfl
 refine wp_block (id:=2) (c:=.loop aag) ?_;have cW:DM x deep (p+1) Hs E c Wg rv dv fv [] Kn.zero (jn Hs) [] E7 V7 a7:=⟨by rw[SZ];exact BS,by rw[oA.role,ap6],.nil,CF,WN,λj hj=>by cases hj⟩;refine wp_loop (λm a' V'=>∃E' js D,m=p+1-js.length/\DM x deep (p+1) Hs E c Wg rv dv fv js D (jn Hs) [] E' V' a') _ ⟨E7,[],Kn.zero,rfl,cW⟩ λm a8 V8 hI=> ?_;obtain⟨E8,js,D,rfl,h8⟩:=hI;have hlen:∀js:List Nat,js.Nodup->(∀j∈js,j<p+1)->js.length<=p+1:=λjs hn hl=>by
  have:=hn.length_le_of_subset (l₂:=S0 (p+1)) λj hj=>by simpa using hl j hj
  simpa using this
 refine alN hx hA (by omega) zd cp h8 (λj D' E9 V9 a9 hj h9=> ?_) λE9 V9 a9 G ajn LW IE It MO xh dX=> ?_
 ·have h1:=hlen _ h9.nodup h9.lt;simp only[SQ,T6]at h1;exact⟨p+1-(js++[j]).length,by simp;omega,E9,js++[j],D',rfl,h9⟩
 ·have KI:js.Perm (S0 (p+1)):=by
   refine(List.perm_ext_iff_of_nodup h8.nodup XZ).2 λk=> ?_;rw[TG];exact⟨h8.lt k,dX k⟩
  exact hQ js D E9 V9 a9 G KI h8.aaa h8.kn ajn LW IE It MO xh
end
theorem ah4{x:aj}{deep:Int}{p:Nat}{H:List aa}{k kp:AV->List aa->Prop}(hx:x.Ok)(hA:wV x)(hp:x.an=p)(hm:H[0]?=some .main)(hk:∀js D L,js.Perm (S0 (p+1))->nZ x deep js D->bF D->L.length=5->k (.agg (D.l (H.length+5))) (H++(L++[setH D.aL]))):bc true SC 77 H [x.av,iv deep] k kp:=by
 intro E V vs hc hd;have hEm:E.main=true:=hc.obj 0 _ hm;obtain⟨ji,ur⟩:=hc.top hEm;have hn:E.n=H.length:=hc.n;refine OA (by simp) F.f77 rfl ?_;have sP:At (E.fu false) V ⟨[(0,x.av),(1,iv deep)],H.map strip⟩ {tmps:=vs++TE (XQ.ntmps-vs.size) undef,defers:=[]} 35:=by
  have:=A9 (nt:=35) hc hd (by simp);exact⟨hc.agj,this.tok.fu false,this.size⟩
 have hlen:(H.map strip).length=H.length:=To _;have KD:bQ (H.map strip):=sP.bm.am
 suffices pi:∀Hs,H.map strip=Hs->WP true SC none uN (Ends SC XQ (gO E V k kp)) {tmps:=vs++TE (XQ.ntmps-vs.size) undef,defers:=[]} V from pi _ rfl
 intro Hs cp;rw[cp]at sP hlen KD;have QA:({tmps:=vs++TE (XQ.ntmps-vs.size) undef,defers:=[]}:Act).defers=[]:=rfl;generalize({tmps:=vs++TE (XQ.ntmps-vs.size) undef,defers:=[]}:Act)=a0 at sP QA;have bO:x.l=[iv x.first,iv x.hours,iv x.an,ek x.seen,bi x.pieces,bi x.aB]:=rfl;refine wp_seq (x:=cf uN) (y:=cs uN) ?_;refine yM ⟨[(4,.op (Hs.length+2) 0),(3,.op (Hs.length+1) 0),(2,.op Hs.length 0)],Hs++[.cells x.l 76,.cells [iv deep] 3,.cells jp 88]⟩ sP ?_ λE2 V2 a2 ce un=> ?_
 ·show aX true SC none 35 (cf uN) _ _;simp only[aj.av];refine ai ?_;exact fP (by simp only[seval];simp[bA,Wk.refl]) rfl
 obtain⟨ti,wb⟩:∃i,SC.info? 88=some i:=Option.isSome_iff_exists.1 (by kernel_rfl);refine wp_seq (x:=cf (cs uN)) (y:=cs (cs uN)) (adl rfl rfl (anx rfl (d:=.both) (el:=88) (by kernel_rfl) wb λc vV=> ?_));let f3:Nat->Option Obj:=λb=>if b=c then some sD else E2.fr b;have ov:At (E2.frame f3) (V2.upd c sD) ⟨[(11,.val (.chan (some c))),(4,.op (Hs.length+2) 0),(3,.op (Hs.length+1) 0),(2,.op Hs.length 0)],Hs++[.cells x.l 76,.cells [iv deep] 3,.cells jp 88]⟩ (a2.put (some 11) (.chan (some c))) 35:=
  ⟨un.bm.aiO vV sD,(un.tok.frame _).put (by rw[un.size];omega) (.val _),(dP a2 (some 11) _).trans un.size⟩
 refine Nw ⟨[(5,.op (Hs.length+3) 0),(4,.op (Hs.length+2) 0),(3,.op (Hs.length+1) 0),(2,.op Hs.length 0)],Hs++[.cells x.l 76,.cells [iv deep] 3,.cells jp 88,.cells [.val (.chan (some c))] 139]⟩ rfl (by kernel_rfl) ov ?_ λE4 V4 a4 ry rj=> ?_
 ·(try simp only[seval,anN,ar0,alX]);exact fP (by simp only[seval];simp[bA,Wk.refl]) rfl
 refine wp_seq (x:=cf (cs (cs uN))) (y:=mr) ?_;refine yM ⟨[(6,.op (Hs.length+4) 0),(5,.op (Hs.length+3) 0),(4,.op (Hs.length+2) 0),(3,.op (Hs.length+1) 0),(2,.op Hs.length 0)],Hs++[.cells x.l 76,.cells [iv deep] 3,.cells jp 88,.cells [.val (.chan (some c))] 139,.cells [.val (.int .u64 0),.val (.int .u32 0)] 147]⟩ rj ?_ λE5 V5 a5 gz kg=> ?_
 ·show aX true SC none 35 (cf (cs (cs uN))) _ _;refine ai ?_;exact fP (by simp only[seval];simp[bA,Wk.refl]) rfl
 obtain⟨wcs,K6,hwo,xV,BV⟩:=kg.bm.aiP (id:=Hs.length+4) (aW _ _ 4);have alg:=O5 (l:=[.int .u64 0,.int .u32 0]) K6;subst alg;rw[ez]at BV;simp only[UC,TY]at BV;have Pm:=kg.arD (t:=6) (id:=Hs.length+4) (off:=0) rfl;have P2:E5.fr=f3:=gz.le.fr.trans ry.le.fr;have vI:E5.fr c=some sD:=by rw[P2];simp[f3]
 have aC:c≠E5.blk (Hs.length+4):=λe=>kg.bm.CU vI (aW Hs _ 4) rfl e.symm;have P3:∀b y,E.fr b=some y->E5.fr b=some y/\b≠c/\b≠E5.blk (Hs.length+4):=λb y hb=>by
  have h2:E2.fr b=some y:=by rw[ce.le.fr];exact hb
  have zl:b≠c:=λe=>by subst e;have:=(un.bm.fr b y h2).1;rw[vV.1]at this;cases this
  have h5:E5.fr b=some y:=by rw[P2];simp[f3,zl,h2]
  exact⟨h5,zl,λe=>kg.bm.CU h5 (aW Hs _ 4) rfl e.symm⟩
 generalize zf:E5.blk (Hs.length+4)=Wg at hwo xV BV Pm aC P3;let f6:Nat->Option Obj:=λb'=>if b'=Wg then some (wgBlock SC 0 0)else E5.fr b';have QN:Conc (E5.frame f6) V5 (Hs++[.cells x.l 76,.cells [iv deep] 3,.cells jp 88,.cells [.val (.chan (some c))] 139,.gone]):=by
  have:(λb'=>if b'=Wg then some (Obj.cells #[.int .u64 0,.int .u32 0] 147 (0,0))else E5.fr b')=f6:=by
   funext b';simp only[f6,wgBlock,wgT]
  rw[<- this];exact BV
 have BM:At (E5.frame f6) V5 ⟨[(6,.val (pW Wg 0)),(5,.op (Hs.length+3) 0),(4,.op (Hs.length+2) 0),(3,.op (Hs.length+1) 0),(2,.op Hs.length 0)],Hs++[.cells x.l 76,.cells [iv deep] 3,.cells jp 88,.cells [.val (.chan (some c))] 139,.gone]⟩ a5 35:=by
  refine⟨QN,λt av e=> ?_,kg.size⟩;by_cases ht:t=6
  ·subst ht;cases e;refine⟨by rw[kg.size];omega,?_⟩;have:a5.tmps.getD 6 undef=pW Wg 0:=Pm;rw[this];exact .val _
  ·refine(kg.tok.frame f6) t av ?_;simp only[look]at e⊢;rw[if_neg (Ne.symm ht)]at e⊢;exact e
 clear BV QN;have lo6:E.Lo (E5.frame f6):=((((E.amv false).trans ce.le.lo).trans (Env.Ge E2 f3)).trans (ry.le.lo.trans gz.le.lo)).trans (Env.Ge E5 f6);have L3:(E5.frame f6).main=false:=gz.le.main.trans (ry.le.main.trans ce.le.main);have agf:a5.defers=[]:=gz.defers.trans (ry.defers.trans ((put_defers a2 _ _).trans (ce.defers.trans QA)));have ro6:V5.role=.plain:=gz.role.trans (ry.role.trans (ce.role.trans ji));have de6:V5.deaf=0:=gz.deaf.trans (ry.deaf.trans (ce.deaf.trans ur));have Jg:(E5.frame f6).fr c=some sD:=by show f6 c=_;simp only[f6,if_neg aC];exact vI
 have Jh:(E5.frame f6).fr Wg=some (wgBlock SC 0 0):=by show f6 Wg=_;simp[f6]
 have P4:∀b y,E.fr b=some y->(E5.frame f6).fr b=some y/\b≠c/\b≠Wg:=λb y hb=>by
  obtain⟨q1,q2,q3⟩:=P3 b y hb;refine⟨?_,q2,q3⟩;show f6 b=_;simp only[f6,if_neg q3];exact q1
 generalize E5.frame f6=E6 at BM lo6 L3 Jg Jh P4;obtain⟨V7,g7,o7,r7,d7,wl,Ed,OY⟩:=BM.bm.GP (id:=Hs.length) (aW _ _ 0) 6 (by simp[bO]);rw[show Hs.length=Hs.length+0 from rfl,ez]at Ed;simp only[TY]at Ed;have acT:=BM.tok.mono wl;generalize hE7:({E6 with I:=V7.ab}:Env)=E7 at wl Ed OY acT;obtain⟨V8,g8,o8,r8,d8,uO,Ee,OZ⟩:=Ed.GP (id:=Hs.length+1) (aW _ _ 1) 1 (by simp);rw[ez]at Ee;simp only[UC,TY]at Ee;have acU:=acT.mono uO;generalize hE8:({E7 with I:=V8.ab}:Env)=E8 at uO Ee OZ acU;obtain⟨V9,g9,o9,r9,d9,uP,w_,Iw⟩:=Ee.GP (id:=Hs.length+3) (aW _ _ 3) 1 (by simp);rw[ez]at w_;simp only[UC,TY]at w_;have acV:=acU.mono uP;generalize hE9:({E8 with I:=V9.ab}:Env)=E9 at uP w_ Iw acV;refine WP.ghost g7 (WP.ghost g8 (WP.ghost g9 ?_));have LW:E.Lo E9:=lo6.trans ((wl.trans uO).trans uP).lo;have MO:V9.role=.plain:=r9.trans (r8.trans (r7.trans ro6));have It:V9.deaf=0:=d9.trans (d8.trans (d7.trans de6));have xh:E9.fr=E6.fr:=uP.fr.trans (uO.fr.trans wl.fr);have n6:E6.n=Hs.length+5:=by rw[BM.bm.n];simp
 have b7:∀k,k<Hs.length+5->E9.blk k=E6.blk k/\E9.blk k=E7.blk k/\E9.blk k=E8.blk k:=λk hk=>by
  have n7:=wl.n;have n8:=uO.n;have q7:=wl.blk k (by omega);have q8:=uO.blk k (by omega);have q9:=uP.blk k (by omega);exact⟨by rw[q9,q8,q7],by rw[q9,q8],q9⟩
 obtain⟨c1,c2,c3⟩:=w_.fr c sD (by rw[xh];exact Jg);obtain⟨v1,v2,v3⟩:=w_.fr Wg _ (by rw[xh];exact Jh);refine arP (c:=c) (Wg:=Wg) rfl MO aC c1 (by rw[v1];simp) v2 ?_;let HU:View:={V9 with role:=.fork c Wg []};have af6:Conc (E9.frame E9.fr) HU (Hs++(du x deep c++[])):=by
  refine w_.yh (V':=HU) _ rfl (λ_ _ _ _ _ _ h=>h) (λg hg=> ?_) (λg hg=> ?_) (λhm=>by rw[uP.main,uO.main,wl.main,L3]at hm;cases hm) w_.fr
  ·cases hg;exact⟨by show V9.own Wg≠none;rw[v1];simp,v2,v3⟩
  ·cases hg;exact⟨by show V9.own c≠none;rw[c1];simp,c2,c3⟩
 have dr9:aq E9 (.rp x.l) (.pointer (some ⟨E9.blk Hs.length,0,none⟩)):=by
  have h7:=(OY.mono uO).mono uP;rw[<- (b7 Hs.length (by omega)).1]at h7;rwa [SY (by simp[bO])]at h7
 have dd9:aq E9 (.rp [iv deep]) (.pointer (some ⟨E9.blk (Hs.length+1),0,none⟩)):=by
  have h8:=OZ.mono uP;rw[<- (b7 (Hs.length+1) (by omega)).2.1]at h8;exact h8
 have IE:aq E9 (.rp [.val (.chan (some c))]) (.pointer (some ⟨E9.blk (Hs.length+3),0,none⟩)):=by
  rw[<- (b7 (Hs.length+3) (by omega)).2.2]at Iw;exact Iw
 have Kz:ju x deep Hs E c Wg (.pointer (some ⟨E9.blk Hs.length,0,none⟩)) (.pointer (some ⟨E9.blk (Hs.length+1),0,none⟩)) (.pointer (some ⟨E9.blk (Hs.length+3),0,none⟩)) [(6,.val (pW Wg 0)),(5,.op (Hs.length+3) 0),(4,.op (Hs.length+2) 0),(3,.op (Hs.length+1) 0),(2,.op Hs.length 0)] [] E9 HU a5:=
  ⟨⟨af6,acV,BM.size⟩,LW,uP.main.trans (uO.main.trans (wl.main.trans L3)),agf,It,rfl,rfl,rfl,dr9,dd9,IE,λb y hb=>by rw[xh];exact P4 b y hb,aC⟩
 refine alO hx hA hp (by omega) KD ⟨Kz,rfl,by rw[xh];exact Jg,by rw[xh];exact Jh⟩ λjs D E11 V11 a11 G KI gT bS QC amu age agb ao9 aiN=> ?_;subst cp;have bR:=Kn.len bS (H.length+5);let L5:List aa:=[.part 6 x.l 76,.part 1 [iv deep] 3,.cells (D.l (H.length+5)) 88,.part 1 [.val (.chan (some c))] 139,.gone];rw[hlen]at QC;refine⟨age,ao7 (P:=SC) (rs:=[.cell 4 88]) (H:=H) (L:=L5++[setH D.aL]) (G:=G) (T:=[(4,.op (H.length+2) 0)]) (av:=.agg (D.l (H.length+5))) rfl QC amu hc (ao9.trans ji.symm) (agb.trans ur.symm) aiN ?_ rfl ?_ ?_ (hk js D L5 KI gT bS rfl)⟩
 ·have hg:(H.map strip++(L5++[setH D.aL]++G))[H.length+2]?=some (.cells (D.l (H.length+5)) 88):=by
   have:=aW (H.map strip) (L5++[setH D.aL]++G) 2;rw[hlen]at this;exact this
  have aF:Un 28 (D.l (H.length+5))=D.l (H.length+5):=SY (by omega);generalize hLG:H.map strip++(L5++[setH D.aL]++G)=LG at hg;try simp only[seval,g_,uU,hg,bR,aF,aa.cellsOf]
 ·have hl:H.length=(H.map strip).length:=hlen.symm;intro y hy;have akc:(H.map strip++(L5++[setH D.aL])).length=H.length+6:=by simp[L5]
  rw[akc];rcases SV.1 hy with h|h
  ·exact(KD y h).mono (by omega)
  ·simp only[L5,SL,SV,S4,or_false]at h;rcases h with(rfl|rfl|rfl|rfl|rfl)|rfl
   ·exactλa ha=>Gj x _ a ha
   ·intro a ha;simp at ha;subst ha;exact .val _
   ·exact xY (by omega)
   ·intro a ha;simp at ha;subst ha;exact .val _
   ·trivial
   ·trivial
 ·refine .agg λa ha=> ?_;exact xY (by simp[L5]) a ha
namespace Tk
theorem Q_{x:aj}{bh:Nat}(h0:0<=x.first)(h90:x.first<=90)(hp:0<=x.an/\x.an<=3):∀(d:Nat)(pre:List Int),pre.length+d<=4->pre.head?=some x.first->(∀a∈pre,x.first<=a/\a<=x.first+3* (pre.length-1:Nat))->∀h∈mQ x bh d pre,h.length=4/\h.head?=some x.first/\∀a∈h,x.first<=a/\a<=x.first+9
 |0,pre,hl,hh,ha,h,hm=>by
  unfold mQ at hm;split at hm
  ·rw[Tb]at hm;subst hm;have aC:pre≠[]:=λe=>(by rw[e]at hh;cases hh);have cX:0<pre.length:=Vx.2 aC;have uw:pre.getLastD 0∈pre:=by
    rw[Vh,XR aC];exact Zo aC
   refine⟨by simp[cL];omega,by rw[cL,WQ,hh];rfl,λa hm=> ?_⟩;have Ku:a∈pre:=by
    rcases SV.1 hm with h|h
    ·exact h
    ·rw[(Xy.1 h).2];exact uw
   have:=ha a Ku;omega
  ·cases hm
 |d+1,pre,hl,hh,ha,h,hm=>by
  unfold mQ at hm;split at hm
  ·obtain⟨n,hn,hm⟩:=S6.1 hm;have kH:n<x.an.toNat+1:=(by simpa using hn);split at hm
   ·cases hm
   ·have aC:pre≠[]:=λe=>(by rw[e]at hh;cases hh);have cX:0<pre.length:=Vx.2 aC;have uw:pre.getLastD 0∈pre:=by
     rw[Vh,XR aC];exact Zo aC
    refine Q_ h0 h90 hp d _ (by simp;omega) (by rw[WQ,hh];rfl) (λa Ku=> ?_) h hm;rw[SQ,T6];rcases SV.1 Ku with h'|h'
    ·have:=ha a h';omega
    ·rw[Tb]at h';subst h';have:=ha _ uw;omega
  ·cases hm
theorem Q6{x:aj}{bh:Nat}(hx:x.Ok){h:List Int}(hm:h∈kG x bh):mD h:=by
 have hf:=hx.first;have hh:=hx.hours;have hp:=hx.an;obtain⟨h1,h2,h3⟩:=Q_ (bh:=bh) hf.1 hf.2 ⟨by omega,hp.2⟩ x.hours.toNat [x.first] (by simp;omega) rfl (λa ha=>by rw[Tb]at ha;subst ha;simp) h hm;refine⟨h1,λa ha=>by have:=h3 a ha;omega,λa ha=>by have:=h3 a ha;omega,?_⟩
 match h,h1,h2,h3 with
 |[a,b,c,d],_,h2,h3=>
  have ha:a=x.first:=by simpa using h2
  have:=h3 d (by simp);simp;omega
theorem aa8:∀{qs:List Nat}{u:Nat}{t ns:List Nat},ns∈kN qs u t->∃l,ns=t++l/\l.length=qs.length/\∀(i n q:Nat),l[i]?=some n->qs[i]?=some q->n<9/\q.testBit n=true
 |[],u,t,ns,h=>by
  simp only[kN,Tb]at h;exact⟨[],by simp[h],rfl,λi n q h1=>by cases h1⟩
 |q::qs,u,t,ns,h=>by
  simp only[kN,S6]at h;obtain⟨n,hn,h⟩:=h;split at h
  ·cases h
  ·rename_i hc;obtain⟨l,h1,h2,h3⟩:=aa8 h;refine⟨n::l,by rw[h1];simp,by simp[h2],λi m q' h4 h5=> ?_⟩
   match i with
   |0=>
    cases h4;cases h5;refine⟨by simpa using hn,?_⟩;simp at hc;exact hc.2
   |i+1=>exact h3 i m q' h4 h5
theorem abj{k:Nat}{ns:List Nat}:∀{qs:List Nat}{u:Nat}{t os:List Nat},os∈mw k ns qs u t->∃l,os=t++l/\l.length=qs.length/\∀n∈l,n<k
 |[],u,t,os,h=>by
  simp only[mw,Tb]at h;exact⟨[],by simp[h],rfl,λn h1=>by cases h1⟩
 |q::qs,u,t,os,h=>by
  simp only[mw,S6]at h;obtain⟨n,hn,h⟩:=h;split at h
  ·cases h
  ·obtain⟨l,h1,h2,h3⟩:=abj h;refine⟨n::l,by rw[h1];simp,by simp[h2],λm hm=> ?_⟩;rcases SL.1 hm with rfl|hm
   ·simpa using hn
   ·exact h3 m hm
theorem Nd:∀{h:List Int}{i:Nat}{n a:Int},h.head?=some a->a<=n->n<h.getLastD 0->0<=dK i h n
 |[],i,n,a,h1,_,_=>by cases h1
 |[b],i,n,a,h1,h2,h3=>by
  simp at h1 h3;omega
 |b::c::l,i,n,a,h1,h2,h3=>by
  have:b=a:=by simpa using h1
  subst this;unfold dK;split
  ·omega
  ·rename_i hc;exact Nd (a:=c) rfl (by omega) (by simpa[Vh]using h3)
theorem arj{x:aj}{h:List Int}{ns os:List Nat}(hx:x.Ok)(hh:mD h)(hn:ns∈f_ x h)(ho:os∈iy x h ns):jv x (di h ns os):=by
 obtain⟨l,e1,e2,e3⟩:=aa8 hn;simp only[Uw]at e1;subst e1;obtain⟨m,g1,g2,g3⟩:=abj ho;simp only[Uw]at g1;subst g1;rw[To]at e2 g2;have h4:=hh.len;have Fz:=hx.cT;have po:=hx.fi;have Cq:(di h ns os).take 4=h:=by
  unfold di;rw[SD,Tw (by omega),SY (by omega)]
 have dp:(kQ 4 ns).length=4:=Ad (by omega);have hg:∀p,p<ns.length->(di h ns os)[4+p]?=(ns[p]?).map λn:Nat=>(n:Int):=λp hp=>by
  unfold di;rw[SD,Tg (by omega),SW (by omega),h4,UR];unfold kQ;rw[SW (by simpa using hp),Tj]
 refine⟨by simp[di,h4,dp,Ad (k:=3) (l:=os) (by omega)],by rw[Cq];exact hh,λp hp=> ?_,λs hs=> ?_⟩
 ·obtain⟨n,Cf⟩:=cz (xs:=ns) (i:=p) (by omega);obtain⟨y,hy⟩:=cz hp;obtain⟨q1,q2⟩:=e3 p n (b_ h y) Cf (by rw[Tj,hy];rfl);refine⟨n,by rw[hg p (by omega),Cf];rfl,q1,?_⟩;rw[Cq];unfold b_ at q2;rw[A_]at q2;simp only[Ti,lH,decide_eq_true_eq]at q2;obtain⟨a,b,c,d,rfl,_⟩:=hh.out;have e0:(di [a,b,c,d] ns os).getD 0 0=a:=rfl;rw[e0];have:=q2.2.1.1;simp at this;exact Nd (a:=a) rfl (by omega) (by simp;omega)
 ·obtain⟨o,KF⟩:=cz (xs:=os) (i:=s) (by omega);refine⟨o,?_,by have:=g3 o (Tf KF);omega⟩;unfold di;rw[Tg (by simp[h4,dp]),show (h++kQ 4 ns).length=8 by simp[h4,dp],UR];unfold kQ;rw[SW (by have:=eX KF;simpa using this),Tj,KF];rfl
end Tk
theorem Dg{x:aj}(hx:x.Ok):wV x:=λbh _ h hm=>by
 have hh:=Q6 hx hm;refine⟨hh,λns jf a ha=> ?_⟩;obtain⟨os,h1,rfl⟩:=Tn.1 ha;exact arj hx hh jf h1
open Go.Conc
section
variable {lv:Bool}{P:SK}{s:AS}{ms:List Nat}{bs:List UX}{nt:Nat}
theorem aiA{f:TN}{fn:YD}{c0 c1 c2:T7}{rs:List UM}{H:List aa}{args:List AV}{k kp:AV->List aa->Prop}(hf:P.funcs[f]?=some fn)(hb:fn.body=some (.seq c0 (.seq c1 c2)))(hr:fn.results=rs.toArray)(hn:fn.ntmps=nt)(cP:args.length<=nt)
  (h:bQ H->(∀a∈args,Lt H.length a)->aX lv P none nt c0 ⟨br 0 args,H⟩ λe s0=>e=.normal/\Ay lv P nt c1 s0 [] (λe s' nk=>e=.normal/\∃c,nk=[c]/\∀bs,kz lv P nt bs c2 s' [] (yB lv P rs H.length c k kp))):bc lv P f H args k kp:=by
 intro E V vs hc hd;have hlt:∀a∈args,Lt H.length a:=λa ha=>by
  obtain⟨i,hi⟩:=pA ha;rw[<- hc.n];exact(hd.2 i a hi).lt
 have ah:=A9 (nt:=nt) hc hd cP;refine afR (by simp) hf hb ?_;rw[hn];refine wp_seq (h hc.am hlt E V _ _ ah λae e E0 V0 a0 s0 zw sP he0 hΦ0=> ?_);obtain⟨rfl,xU⟩:=hΦ0;cases e<;>first
  |exact he0.elim
  |skip
 have ajM:a0.defers=[]:=zw.defers;refine wp_seq (xU E0 V0 a0 _ sP (by rw[ajM];trivial) λae e E1 V1 a1 s1 ds1 aj9 vP de BY hΦ1=> ?_);obtain⟨rfl,c,rfl,hw⟩:=hΦ1;have gV:=zw.d.trans aj9;cases e<;>first
  |exact BY.elim
  |skip
 obtain⟨d,fH,bp⟩:∃d,a1.defers=[d]/\yw E1 c d:=by
  match fH:a1.defers,de with
  |[d],de=>exact⟨d,rfl,de.1⟩
  |[],de=>exact de.elim
  |_::_::_,de=>exact de.2.elim
 refine hw [d] E1 V1 a1 _ vP ⟨by simp[fH],by simp⟩ λae e E' V' a' s' cH hk aQ fX he hΦ=> ?_;have hle:E.Le E':=gV.le.trans hk.le;have fin:∀(md:U9)(m:Option AV)(H':List aa),(md matches .run)=false->iK cH s'.H=some H'->NM E' m md->qI lv P c H' m (λH'=>ap (g_ P ⟨s'.T,H'⟩ rs) λl=>cw H.length H' (iU l) k) (λH'=>∀pv,m=some pv->cw H.length H' pv kp)->tV lv P fn (gO E V k kp) a'.defers md a'.tmps V':=by
  intro md m H' qh hg Rp hD;refine ada qh cH _ H' E' V' _ hg aQ.bm fX λV2 r1 r2 cE=> ?_;have ajJ:=bp.mono hk.le;refine⟨qh,.inr ⟨?_,?_⟩⟩
  ·obtain⟨f,first,cV,fa,ca,vs,h1,rfl,h3,h4,h5⟩:=bp;exact⟨_,_,rfl⟩
  ·refine(hD E' V2 d md cE ajJ Rp).mono (λnx aP hx=> ?_) λ_ _ h=>h;obtain⟨g,args,rfl,By⟩:=hx;refine⟨g,args,rfl,By.mono λnR V3 hx=> ?_⟩;obtain⟨E3,H3,q1,q2,q3,q4,q5|q5⟩:=hx
   ·obtain⟨rfl,q5⟩:=q5;exact abI (s':=⟨s'.T,H3⟩) (a':=a') hr ⟨q4,aQ.tok.mono q1,aQ.size⟩ (hle.trans q1) hc.n (q2.trans (r1.trans (hk.role.trans gV.role))) (q3.trans (r2.trans (hk.deaf.trans gV.deaf))) q5
   ·obtain⟨rfl,uy,q5⟩:=q5;cases m with
    |none=>cases uy
    |some pv=>
     obtain⟨v,rfl,nL⟩:=Rp;obtain⟨b,bE,tP,t1,t2,t3,t4⟩:=xb (q5 pv rfl) q4 (nL.mono q1) (hle.trans q1) hc.n;exact⟨b,v,bE,tP,rfl,t1,q2.trans (r1.trans (hk.role.trans gV.role)),q3.trans (r2.trans (hk.deaf.trans gV.deaf)),t2,t3,t4⟩
 have air:yB lv P rs H.length c k kp .ret s' cH->tV lv P fn (gO E V k kp) a'.defers .returning a'.tmps V':=λhΦ=>by
  obtain⟨H',hg,hΦ⟩:=ap.out hΦ;refine fin .returning none H' rfl hg rfl λE2 V2 d2 L6 c1 c2 c3=> ?_;refine(hΦ E2 V2 d2 L6 c1 c2 c3).mono (λnx aP hx=> ?_) λ_ _ h=>h;obtain⟨g,args,rfl,By⟩:=hx;refine⟨g,args,rfl,By.mono λnR V3 hx=> ?_⟩;obtain⟨E3,H3,q1,q2,q3,q4,q5|q5⟩:=hx
  ·exact⟨E3,H3,q1,q2,q3,q4,.inl q5⟩
  ·exact q5.2.2.elim
 cases ae<;>cases e<;>first
  |exact he.elim
  |exact air hΦ
  |exact hΦ.elim
  |skip
 rename_i pv ch;obtain⟨v,fe,ajK⟩:∃v,ch=[{v,recovered:=false}]/\aq E' pv v:=he;subst fe;obtain⟨H',hg,hΦ⟩:=ap.out hΦ;refine fin _ (some pv) H' rfl hg ⟨v,rfl,ajK⟩ λE2 V2 d2 L6 c1 c2 c3=> ?_;refine(hΦ E2 V2 d2 L6 c1 c2 c3).mono (λnx aP hx=> ?_) λ_ _ h=>h;obtain⟨g,args,rfl,By⟩:=hx;refine⟨g,args,rfl,By.mono λnR V3 hx=> ?_⟩;obtain⟨E3,H3,q1,q2,q3,q4,q5|q5⟩:=hx
 ·exact⟨E3,H3,q1,q2,q3,q4,.inl q5⟩
 ·exact⟨E3,H3,q1,q2,q3,q4,.inr ⟨q5.1,q5.2.1,λpv' e=>by cases e;exact q5.2.2⟩⟩
end
open Go.Proofs Go.Gg.Tk
namespace Tk
def vD (x:aj):Bool:=(S0 (x.an.toNat+1)).any λbh=>(kG x bh).any λh=> !(jo x 0 h).isEmpty
end Tk
def uR:AV:=.c9 136 (.agg [])
section
variable {lv:Bool}{H:List aa}{kr kp:List aa->Prop}
theorem aid{r:Nat}(h:∀L,kr (H++L)):qI lv SC (.fn (.func 95) [] [.op r 0],[]) H none kr kp:=by
 refine OW (nt:=9) (by kernel_rfl) F.f95 rfl rfl rfl rfl rfl rfl rfl rfl (by kernel_rfl) (by simp) ?_;simp only[br,SX,Uw,Vm];(try simp only[seval,F.Lv]);refine ew (a:=[]) rfl ⟨rfl,by decide,by simp,?_⟩;refine ai ?_;refine aD ?_;refine afa ?_;exact .inl (h _)
theorem aie{r:Nat}{a:AV}(hr:H[r]?=some (.cells [a] 4))(h:∀L,kr (H.set r (.cells [bv true] 4)++L)):qI lv SC (.fn (.func 95) [] [.op r 0],[]) H (some uR) kr kp:=by
 refine OW (nt:=9) (by kernel_rfl) F.f95 rfl rfl rfl rfl rfl rfl rfl rfl (by kernel_rfl) (by simp) ?_;simp only[br,SX,Uw,S8,uR];(try simp only[seval,F.Lv]);have uD:=eX hr;have xO:∀L:List aa,(H++L)[r]?=some (.cells [a] 4):=λL=>fF hr;refine ai ?_;refine aD ?_;refine ak ?_;simp only[seval,xO,uY uD];exact .inl (h _)
end
def qW (x:aj)(m:Lp)(h:List Int):dF Lp:=if(jo x 0 h).isEmpty then .go .ready else .bad .busy
theorem OI{x:aj}:∀(l:List (List Int)),bC (qW x) l .ready=if l.any (λh=> !(jo x 0 h).isEmpty)=true then .bad .busy else .go .ready
 |[]=>by simp[bC]
 |h::l=>by
  have ih:=OI (x:=x) l;by_cases he:(jo x 0 h).isEmpty=true
  ·have e1:qW x .ready h=.go .ready:=(by unfold qW;rw[if_pos he]);rw[bC,e1];dsimp only;rw[ih];simp only[YS,he,am',Zv]
  ·have e1:qW x .ready h=.bad .busy:=(by unfold qW;rw[if_neg he]);rw[bC,e1];dsimp only;have e2:(jo x 0 h).isEmpty=false:=(by simpa using he);simp only[YS,e2,YF,ah',if_true]
theorem afo(l:List (List Int)):bC (λ(_:Lp) (_:List Int)=>(.bad .busy:dF Lp)) l .ready=if l.isEmpty then .go .ready else .bad .busy:=by
 cases l<;>rfl
def Bd (x:aj)(i:Nat):List aa:=[.cells x.l 76,.cells [iv i] 3,.obj (.deferred (some [])),.gone]
def kC (x:aj)(H:List aa):Nat->List aa
 |0=>H++[.cells x.l 76,.cells [bv false] 4]
 |i+1=>kC x H i++Bd x i
def w8 (H:List aa):Nat->List Nat
 |0=>[]
 |i+1=>(H.length+2+4* i+2)::w8 H i
theorem Il(x:aj)(H:List aa):∀i,(kC x H i).length=H.length+2+4* i
 |0=>by simp[kC]
 |i+1=>by simp[kC,Bd,Il x H i];omega
theorem OH(x:aj)(H:List aa):∀i,∃Y,kC x H i=H++[.cells x.l 76,.cells [bv false] 4]++Y
 |0=>⟨[],by simp[kC]⟩
 |i+1=>by
  obtain⟨Y,h⟩:=OH x H i;exact⟨Y++Bd x i,by rw[kC,h,SD]⟩
theorem Ik(x:aj)(H:List aa):∀(i:Nat)(L:List aa),∃Y,iK (w8 H i) (kC x H i++L)=some (H++[.cells x.l 76,.cells [bv false] 4]++Y)
 |0,L=>⟨L,by rw[w8,y_,kC]⟩
 |i+1,L=>by
  have hl:=Il x H i;have e:(kC x H (i+1)++L)=kC x H i++(Bd x i++L):=by rw[kC,SD]
  have hg:(kC x H i++(Bd x i++L))[H.length+2+4* i+2]?=some (.obj (.deferred (some []))):=by rw[<- hl,aW];rfl
  obtain⟨Y,hY⟩:=Ik x H i ([.cells x.l 76,.cells [iv i] 3,.gone,.gone]++L);refine⟨Y,?_⟩;rw[w8,e,y9 hg,<- hl,ez];exact hY
theorem OG(x:aj)(H:List aa)(i:Nat)(L:List aa):(kC x H i++L)[H.length]?=some (.cells x.l 76)/\(kC x H i++L)[H.length+1]?=some (.cells [bv false] 4):=by
 obtain⟨Y,h⟩:=OH x H i;rw[h,SD,SD];exact⟨aW H _ 0,aW H _ 1⟩
section
variable {lv:Bool}
theorem aiG{P:SK}(rs:List UM)(n:Nat)(c:AV×List AV)(k kp:AV->List aa->Prop)(pv:AV)(s:AS)(ms:List Nat):yB lv P rs n c k kp (.panic pv) s ms=ap (iK ms s.H) λH'=>qI lv P c H' (some pv) (λH'=>ap (g_ P ⟨s.T,H'⟩ rs) λl=>cw n H' (iU l) k) (λH'=>cw n H' pv kp):=by rw[yB]
theorem aiH{P:SK}(rs:List UM)(n:Nat)(c:AV×List AV)(k kp:AV->List aa->Prop)(s:AS)(ms:List Nat):yB lv P rs n c k kp .ret s ms=ap (iK ms s.H) λH'=>qI lv P c H' none (λH'=>ap (g_ P ⟨s.T,H'⟩ rs) λl=>cw n H' (iU l) k) (λ_=>False):=by rw[yB]
theorem ah1{H:List aa}{k kp:AV->List aa->Prop}{x:aj}(hx:x.Ok)(hk:k (bv (vD x)) H):bc lv SC 71 H [x.av] k kp:=by
 refine aiA (rs:=[.cell 2 4]) (nt:=24) F.f71 rfl rfl rfl (by simp) λhH hA=> ?_;simp only[br,SX,aj.av];have Jo:=Dg hx;have hp:=hx.an;obtain⟨p,dY⟩:∃p:Nat,x.an=p:=⟨x.an.toNat,by omega⟩;have bO:x.l=[iv x.first,iv x.hours,iv x.an,ek x.seen,bi x.pieces,bi x.aB]:=rfl;have aS:∀(L:List aa),(H++L)[H.length]?=L[0]?:=λL=>aW H L 0;have hw:SF.wrap (x.an+1)=((p+1:Nat):Int):=by rw[dY,bI _ (by omega)];rfl
 refine ak ?_;simp only[seval,F.NS];refine Ol (n:=1) rfl rfl rfl rfl rfl rfl (by kernel_rfl) ?_;(try simp only[seval,Ue,UF,Uf,TS]);refine⟨⟨_,_,_,rfl⟩,_,rfl,λbs=> ?_⟩;refine D8 ?_;refine sA ?_;refine ak ?_;simp only[seval,aS,bO,hw];refine w5 ?_;refine Om (measure λi=>p+1-i).wf (λi:Nat=>⟨[(10,iv i),(9,iv ((p+1:Nat):Int)),(2,.op (H.length+1) 0),(1,.op H.length 0)],kC x H i⟩) (λi=>w8 H i) (λi=>i<=p+1/\∀j,j<i->∀h∈kG x j,(jo x 0 h).isEmpty=true) 0 (fP (by simp only[seval];simp[bA,Wk.refl]) rfl) rfl ⟨by omega,λj hj=>by omega⟩ λi am=> ?_;obtain⟨io,fq⟩:=am;have bX:=Il x H i;have mN:=λL=>(OG x H i L).1;have xu:=λL=>(OG x H i L).2;obtain⟨N,hN⟩:∃N,N=H.length+2+4* i:=⟨_,rfl⟩;rw[<- hN]at bX;have QI:(kC x H i)[H.length]?=some (.cells x.l 76):=by have:=mN [];rwa [SZ]at this
 refine sA ?_;refine ai ?_;refine sA ?_;refine aD ?_;refine⟨λh=> ?_,λh=> ?_⟩
 ·
  have p_:i<=3:=by omega
  refine aN ?_;refine D8 ?_;refine w5 ?_;refine sA ?_;refine ai ?_;refine sA ?_;refine ak ?_;simp only[seval,QI,bO];refine aK ((IZ (x:=x) (n:=i) ?_));rw[bX];(try simp only[seval]);refine w5 ?_;refine Ic (by rfl) λl fn T ag bo hT xq p8=> ?_;have nG:(kC x H i++[aa.cells x.l 76,aa.cells [iv i] 3]).length=N+2:=by rw[SQ,bX];rfl
  (try simp only[seval]);rw[bX];obtain⟨B,hB⟩:∃B,B=kC x H i:=⟨_,rfl⟩;rw[<- hB]at bX QI mN xu⊢;have bg:∀(L:List aa)(j:Nat),(B++L)[N+j]?=L[j]?:=λL j=>by rw[<- bX,aW]
  have Eb:∀(L:List aa)(j:Nat)(y:aa),(B++L).set (N+j) y=B++L.set j y:=λL j y=>by rw[<- bX,ez]
  have QP:∀(M:List aa)(lp:Lp),bQ (B++([aa.cells x.l 76,.cells [iv i] 3,.obj (.deferred (some [])),.loop l .ready none fn T 24 #[16] ag bo (N+2)]++M))->bQ (B++([aa.cells x.l 76,.cells [iv i] 3,.obj (.deferred (some [])),.loop l lp.st lp.pe fn T 24 #[16] ag bo (N+2)]++M)):=λM lp im z hz=>by
   have hlen:(B++([aa.cells x.l 76,.cells [iv i] 3,.obj (.deferred (some [])),.loop l lp.st lp.pe fn T 24 #[16] ag bo (N+2)]++M)).length=(B++([aa.cells x.l 76,.cells [iv i] 3,.obj (.deferred (some [])),.loop l .ready none fn T 24 #[16] ag bo (N+2)]++M)).length:=(by simp);have hl:=im (.loop l .ready none fn T 24 #[16] ag bo (N+2)) (by simp);rw[hlen];rcases SV.1 hz with h'|h'
   ·exact im z (Th _ h')
   ·rcases SV.1 h' with h'|h'
    ·simp only[SL,S4,or_false]at h';rcases h' with rfl|rfl|rfl|rfl
     ·exact im _ (by simp)
     ·exact im _ (by simp)
     ·exact im _ (by simp)
     ·exact hl
    ·exact im z (S5 _ (S5 _ h'))
  have hY:jP lv SC (.fn (.yield l) [] []) (qW x) (λlp:Lp=>B++[.cells x.l 76,.cells [iv i] 3,.obj (.deferred (some [])),.loop l lp.st lp.pe fn T 24 #[16] ag bo (N+2)]) (N+4) (λlp=>lp=.ready) (λh=>mD h/\∀ns∈f_ x h,∀a∈(iy x h ns).map (di h ns),jv x a) uR:=by
   refine⟨λlp h M k kp gW ha dH=> ?_,λlp h CN gW ha he=> ?_,λlp=>by simp[bX],λm lp CN hz z fh=> ?_,rfl,rfl,rfl⟩
   ·replace gW:lp=.ready:=gW;subst gW;obtain⟨o6,Cr⟩:=ha;have h4:=o6.len;have nw:(h.map iv).length=4:=(by rw[To,h4]);obtain⟨Lo,ld⟩:∃Lo,Lo=aa.loop l .busy none fn T 24 #[16] ag bo (N+2):=⟨_,rfl⟩;obtain⟨P1,dA⟩:∃P1:List aa,P1=B++([.cells x.l 76,.cells [iv i] 3,.obj (.deferred (some [])),Lo]++M):=⟨_,rfl⟩;have eE:P1.length=N+4+M.length:=(by rw[dA];simp[bX];omega);have pg3:∀(L:List aa),(P1++L)[N+3]?=some Lo:=λL=>(by rw[dA,SD,bg];rfl);have px:∀(L:List aa),(P1++L)[H.length]?=some (.cells x.l 76):=λL=>(by rw[dA,SD];exact mN _);have pb:∀(L:List aa)(j:Nat),(P1++L)[N+4+M.length+j]?=L[j]?:=λL j=>(by rw[<- eE,aW]);have wz:∀(L:List aa),(P1++L)[N+4+M.length]?=L[0]?:=λL=>pb L 0;have pF:∀(L:List aa)(y:aa),(P1++L).set (N+4+M.length+4) y=P1++L.set 4 y:=λL y=>(by rw[<- eE,ez]);have s3:∀(L:List aa) y,(P1++L).set (N+3) y=B++([.cells x.l 76,.cells [iv i] 3,.obj (.deferred (some [])),y]++M)++L:=λL y=>by
     rw[dA,SD,Eb];simp
    subst hT xq p8;rw[SD];refine vC (id:=N+3) (by rw[bg];rfl) rfl (by kernel_rfl) λoo Jp=> ?_;simp only[sf];have vX:UD 4 [iv 0,iv 0,iv 0,iv 0]=[]:=rfl;refine ak ?_;simp only[seval,h4,vX];unfold tT;refine⟨none,fn,_,24,#[16],_,_,_,by rw[bg];rfl,?_⟩;dsimp only;rw[Eb];simp only[UC,TY];rw[<- ld];have xk:B.length+(M.length+1+1+1+1)=N+4+M.length:=(by rw[bX];omega);rw[xk];have xB:∀z:aa,(B++aa.cells x.l 76::aa.cells [AV.val (SG SF ↑i)] 3::aa.obj (atI (some []))::Lo::(M++[z]))=P1++[z]:=λz=>(by rw[dA];simp[iv]);rw[xB];refine ak ?_;simp only[seval,px,bO,wz,h4,nw];rw[SY (i:=4) (l:=h.map iv) (by rw[nw];exact SU _)];refine aK ((I0 (x:=x) (h:=h) (deep:=0) ?_));(try simp only[seval]);refine cJ ?_;refine D6 (N+3) (by rfl) (by show (P1++_)[N+3]?=_;rw[pg3,ld]) λl2 eW T2 gE gF oq xr xv=> ?_;simp only[seval];rw[eE];have xp:jP lv SC (.fn (.yield l2) [] []) (λ(_:Lp) (_:List Int)=>(.bad .busy:dF Lp)) (λlp:Lp=>P1++[.cells (h.map iv) 83,.cells x.l 76,.cells (h.map iv) 83,.cells [iv 0] 3,.loop l2 lp.st lp.pe eW T2 24 #[20] gE gF (N+2)]) (N+4+M.length+5) (λlp=>lp=.ready) (λa=>a.length=11) uR:=by
     refine⟨λlp t M2 k2 xZ gW ht lj=> ?_,λlp t CN gW ht he=>(by cases he),λlp=>by simp[eE],λq lp CN hz z fh=> ?_,rfl,rfl,rfl⟩
     ·replace gW:lp=.ready:=gW;subst gW;simp only[c_]at lj;have lZ:∀(L:List aa),(P1++L)[N+4+M.length+4]?=L[4]?:=λL=>pb L 4;subst oq xr xv;rw[SD];refine vC (id:=N+4+M.length+4) (by rw[lZ];rfl) rfl (by kernel_rfl) λrh Jq=> ?_;simp only[sf];refine aN ?_;unfold tT;refine⟨none,eW,_,24,#[20],_,_,_,by rw[lZ];rfl,?_⟩;dsimp only;rw[pF];simp only[UC,TY];refine ak ?_;simp only[seval,F.Lv];show cw _ (P1++_) _ xZ;rw[SD]at lj;exact cm lj
     ·rcases SV.1 fh with h'|h'
      ·exact hz z (Th _ h')
      ·have hl:=hz _ (S5 _ (Tf (i:=4) rfl));simp only[SL,S4,or_false]at h';rcases h' with rfl|rfl|rfl|rfl|rfl
       ·exact hz _ (S5 _ (by simp))
       ·exact hz _ (S5 _ (by simp))
       ·exact hz _ (S5 _ (by simp))
       ·exact hz _ (S5 _ (by simp))
       ·exact hl
    rw[eE]at oq;have Fs:∀n,Lt n uR:=λn=>(by simp[uR,aaB,tu]);refine cO (I3 (x:=x) (h:=h) (deep:=0) (ir:=N+4+M.length+1) (ih:=N+4+M.length+1+1) (id:=N+4+M.length+1+2) (σ:=Lp.ready) hx o6 xp (λlp L=> ?_) (λlp L=> ?_) (λlp L=> ?_) Fs rfl (λa ha=>ha) (λns jf a ha=>(Cr ns jf a ha).len) ?_)
    ·rw[SD];exact pb _ 1
    ·rw[SD];exact pb _ 2
    ·rw[SD];exact pb _ 3
    rw[afo];have lZ:∀(L:List aa),(P1++L)[N+4+M.length+4]?=L[4]?:=λL=>pb L 4;by_cases sS:(jo x 0 h).isEmpty=true
    ·rw[if_pos sS];have e1:qW x .ready h=.go .ready:=(by unfold qW;rw[if_pos sS]);rw[e1]at dH;simp only[c_]at dH;simp only[gg,SZ];refine⟨.ready,none,_,_,_,_,_,_,_,by rw[lZ];rfl,by decide,?_⟩;rw[pF,GN];(try simp only[seval]);show oQ _ _ _ _ _ _ _;refine⟨l,.busy,none,fn,_,24,#[16],_,_,N+2,by show (P1++_)[_]?=_;rw[pg3,ld],?_⟩;show cw (N+4+M.length) ((P1++_).set _ _) _ k;rw[s3];rw[SD]at dH;exact jU (G:=[.cells (h.map iv) 83,.cells x.l 76,.cells (h.map iv) 83,.cells [iv 0] 3,.gone]) (Wk.refl _) (by simp[iv];exact⟨rfl,rfl⟩) (by simp[bX];omega) (QP M .ready oo) (.val _) dH
    ·rw[if_neg sS];have e1:qW x .ready h=.bad .busy:=(by unfold qW;rw[if_neg sS]);rw[e1]at dH;simp only[c_]at dH;simp only[gg,SZ];show cw (N+4+M.length) (P1++_) uR kp;rw[SD]at dH;refine jU (H':=B++([aa.cells x.l 76,.cells [iv i] 3,.obj (.deferred (some [])),.loop l Lp.busy.st Lp.busy.pe fn _ 24 #[16] _ _ (N+2)]++M)) (Wk.refl _) (by rw[dA,ld];rfl) (by simp[bX];omega) (QP M .busy oo) (Fs _) dH
   ·replace gW:lp=.ready:=gW;subst gW;unfold qW at he;split at he
    ·cases he;rfl
    ·cases he
   ·rcases SV.1 fh with h'|h'
    ·exact hz z (Th _ h')
    ·have hl:=hz _ (S5 _ (Tf (i:=3) rfl));simp only[SL,S4,or_false]at h';rcases h' with rfl|rfl|rfl|rfl
     ·exact hz _ (S5 _ (by simp))
     ·exact hz _ (S5 _ (by simp))
     ·exact hz _ (S5 _ (by simp))
     ·exact hl
  have Fs:∀n,Lt n uR:=λn=>by simp[uR,aaB,tu]
  refine cO (I1 (x:=x) (bh:=i) (ir:=N) (it:=N+1) (σ:=Lp.ready) hx hY (λlp L=> ?_) (λlp L=> ?_) p_ Fs rfl (λa ha=>Jo i p_ a ha) ?_)
  ·rw[SD];exact bg _ 0
  ·rw[SD];exact bg _ 1
  rw[OI];have bZ:SF.wrap ((i:Int)+1)=((i+1:Nat):Int):=by rw[bI _ (by omega)];rfl
  by_cases BL:(kG x i).any (λh=> !(jo x 0 h).isEmpty)=true
  ·rw[if_pos BL];have JM:vD x=true:=by
    unfold vD;rw[UL];exact⟨i,by rw[TG];omega,BL⟩
   rw[JM]at hk;simp only[gg,SZ];(try simp only[seval,aiG]);obtain⟨Y,vN⟩:=Ik x H i [.cells x.l 76,.cells [iv i] 3,.gone,.loop l .busy none fn T 24 #[16] ag bo (N+2)];rw[<- hB]at vN;have hgo:iK ((N+2)::w8 H i) (B++[.cells x.l 76,.cells [iv i] 3,.obj (.deferred (some [])),.loop l Lp.busy.st Lp.busy.pe fn T 24 #[16] ag bo (N+2)])=some (H++[.cells x.l 76,.cells [bv false] 4]++Y):=by
    rw[y9 (by rw[bg];rfl),Eb];exact vN
   refine ew hgo ?_;have dt:(H++[aa.cells x.l 76,.cells [bv false] 4]++Y)[H.length+1]?=some (.cells [bv false] 4):=(by rw[SD];exact aW H _ 1);refine aie dt λL=> ?_;have cE:((H++[aa.cells x.l 76,.cells [bv false] 4]++Y).set (H.length+1) (.cells [bv true] 4)++L)[H.length+1]?=some (.cells [bv true] 4):=by
    rw[SD,ez,SD];exact aW H _ 1
   (try simp only[seval,g_,uU,cE,aa.cellsOf]);exact k_ hH hk
  ·rw[if_neg BL];simp only[gg,SZ];refine⟨.ready,none,_,_,_,_,_,_,_,by show (B++_)[N+3]?=_;rw[bg];rfl,by decide,?_⟩;rw[show N+2+1=N+3 from rfl,Eb,GM];(try simp only[seval]);refine D7 ?_;refine ak ?_;simp only[seval,bZ];refine⟨i+1,?_,⟨by omega,λj hj g hm=> ?_⟩,fP (by push_cast;simp only[seval];simp[bA,Wk.refl]) (by rw[hB];rfl),by rw[w8,hN]⟩
   ·show p+1-(i+1)<p+1-i;omega
   ·by_cases cx:j<i
    ·exact fq j cx g hm
    ·have:j=i:=(by omega);subst this;apply Tt;intro aC;exact BL (UL.2 ⟨g,hm,by simpa using aC⟩)
 ·
  have cS:i=p+1:=by omega
  subst cS;have JM:vD x=false:=by
   unfold vD;rw[Bool.eq_false_iff];intro hc;obtain⟨j,h1,h2⟩:=UL.1 hc;obtain⟨h,h3,h4⟩:=UL.1 h2;rw[TG]at h1;have:=fq j (by omega) h h3;rw[this]at h4;cases h4
  rw[JM]at hk;have QD:(kC x H (p+1))[H.length+1]?=some (.cells [bv false] 4):=by have:=xu [];rwa [SZ]at this
  refine bU ?_;refine sA ?_;refine ak ?_;simp only[seval,QD];rw[qC QD];refine D7 ?_;refine oU ?_;rw[aiH];obtain⟨Y,vN⟩:=Ik x H (p+1) [];rw[SZ]at vN;refine ew vN ?_;refine aid λL=> ?_;have cE:(H++[aa.cells x.l 76,.cells [bv false] 4]++Y++L)[H.length+1]?=some (.cells [bv false] 4):=by
   rw[SD,SD];exact aW H _ 1
  (try simp only[seval,g_,uU,cE,aa.cellsOf]);exact k_ hH hk
end
open Go.Conc Go.Proofs Go.Gg.Tk
section
variable {lv:Bool}{H:List aa}{k kp:AV->List aa->Prop}
theorem sI{n lo hi:Int}(hk:k (bv (decide (n<lo)||decide (n>hi))) H):bc lv SC 59 H [iv n,iv lo,iv hi] k kp:=by
 refine bH (rs:=[.tmp 6]) (nt:=15) Tryz.f59 λhH hA=> ?_;simp only[br,SX];refine ai ?_;by_cases h:n<lo
 ·have h1:decide (n<lo)=true:=by simpa using h
  refine ak ?_;simp only[seval,h1];refine aZ ?_;rw[h1,ah']at hk;exact cm hk
 ·have h1:decide (n<lo)=false:=by simpa using h
  refine ak ?_;simp only[seval,h1];refine aZ ?_;rw[h1,Zv]at hk;exact cm hk
theorem IV{b:jq}{hi e at':Int}(hb:va b hi)(hk:k (.val .nilIface) H):bc lv SC 104 H [b.av,iv hi,iv e,iv at'] k kp:=by
 refine bH (rs:=[.tmp 8]) (nt:=33) Tryz.f104 λhH hA=> ?_;simp only[br,SX,jq.av];have h1:(decide (b.min<0)||decide (b.min>hi))=false:=by have:=hb.min;have:=hb.le;have:=hb.max;simp;omega
 have h2:(decide (b.max<0)||decide (b.max>hi))=false:=by have:=hb.min;have:=hb.le;have:=hb.max;simp;omega
 have h3:decide (b.min>b.max)=false:=by have:=hb.le;simp;omega
 refine ai ?_;refine ak ?_;simp only[seval,jq.l];refine aK ((sI ?_));(try simp only[seval,h1]);refine aK ((sI ?_));(try simp only[seval,h2]);refine aD ?_;refine ak ?_;simp only[seval,h3];refine aD ?_;refine aN ?_;refine ai ?_;refine aZ ?_;exact k_ hH hk
theorem ahS(hk:k (bv true) H):bc lv SC 52 H [] k kp:=by
 refine bH (rs:=[.tmp 0]) (nt:=1) Tryz.f52 λhH hA=> ?_;simp only[br,SX];refine ai ?_;refine ai ?_;refine aZ ?_;exact cm hk
theorem ahj{t:AV}(hk:k (bv false) H):bc lv SC 105 H [.val .nilIface,t] k kp:=by
 refine bH (rs:=[.tmp 4]) (nt:=42) Tryz.f105 λhH hA=> ?_;simp only[br,SX];refine ai ?_;refine ak ?_;simp only[seval,F.CB];refine aD ?_;refine ai ?_;refine aZ ?_;exact cm hk
theorem ah8(hk:k (iv 0) H):bc lv SC 84 H [.val .nilIface] k kp:=by
 refine bH (rs:=[.tmp 2]) (nt:=9) Tryz.f84 λhH hA=> ?_;simp only[br,SX];refine ai ?_;refine ai ?_;refine ak ?_;simp only[seval,F.aln];refine aK ((ahj ?_));(try simp only[seval]);refine aD ?_;refine aN ?_;refine ai ?_;refine aZ ?_;exact k_ hH hk
theorem ah7{x:aj}{y:Seen}{at':Int}(hh:0<=y.hour/\y.hour<=x.hours)(hb:va y.next 99)(hk:k (.val .nilIface) H):bc lv SC 83 H [x.av,y.av,iv at'] k kp:=by
 refine bH (rs:=[.tmp 6]) (nt:=19) Tryz.f83 λhH hA=> ?_;simp only[br,SX,aj.av,Seen.av];have bO:x.l=[iv x.first,iv x.hours,iv x.an,ek x.seen,bi x.pieces,bi x.aB]:=rfl;have h1:(decide (y.hour<0)||decide (y.hour>x.hours))=false:=by simp;omega
 refine ak ?_;simp only[seval,bO,Seen.l];refine ai ?_;refine aK ((sI ?_));(try simp only[seval,h1]);refine aD ?_;refine aN ?_;refine ai ?_;refine aK ((IV (b:=y.next) hb ?_));(try simp only[seval]);refine aZ ?_;exact k_ hH hk
theorem PE{x:aj}{l:List aH}(hx:x.Ok)(hl:∀y∈l,HN x y)(qe:l.length<=4)(hk:k (.val .nilIface) H):bc lv SC 85 H [x.av,bi l] k kp:=by
 refine bH (rs:=[.tmp 4]) (nt:=34) Tryz.f85 λhH hA=> ?_;simp only[br,SX,aj.av];have bO:x.l=[iv x.first,iv x.hours,iv x.an,ek x.seen,bi x.pieces,bi x.aB]:=rfl;have aS:∀(L:List aa),(H++L)[H.length]?=L[0]?:=λL=>aW H L 0;have Kf:=hx.hours;have xU:SF.wrap (x.hours-1)=x.hours-1:=bI _ (by omega);refine ak ?_;simp only[seval,bO];refine ak ?_;simp only[seval,bi];refine cJ ?_;refine tX l.length (λi:Nat=>[(11,iv i)]) (λ_=>_) (λi=>True) trivial (λcp dz i cW _ R hR=> ?_);refine ai ?_;refine aD ?_;refine⟨λh=> ?_,λh=> ?_⟩
 ·have bG:i<l.length:=by omega
  obtain⟨y,hy⟩:=cz bG;have Cx:=hl y (Tf hy);have bZ:SF.wrap ((i:Int)+1)=((i+1:Nat):Int):=by rw[bI _ (by omega)];rfl
  refine aN ?_;refine ak ?_;simp only[seval,G5 hy,jR bG];refine ai ?_;refine aK ((IV (b:=y.number) Cx.number ?_));(try simp only[seval]);refine ak ?_;simp only[seval,F.CB];refine aD ?_;refine aN ?_;refine ak ?_;simp only[seval,aS,xU];refine aK ((IV (b:=y.hour) Cx.hour ?_));(try simp only[seval]);refine ak ?_;simp only[seval,F.CB];refine aD ?_;refine aN ?_;refine ak ?_;simp only[seval,bZ];exact hR _ ⟨bG,trivial,Ag (qv rfl rfl) (by simp only[seval];simp[bA,Wk.refl]) cp (by simp[eG])⟩
 ·refine bU ?_;refine ai ?_;refine aZ ?_;exact k_ hH hk
theorem Eo{x:aj}(hx:x.Ok)(hk:k (iv 0) H):bc lv SC 62 H [x.av] k kp:=by
 refine bH (rs:=[.tmp 2]) (nt:=62) Tryz.f62 λhH hA=> ?_;simp only[br,SX,aj.av];have bO:x.l=[iv x.first,iv x.hours,iv x.an,ek x.seen,bi x.pieces,bi x.aB]:=rfl;have aS:∀(L:List aa),(H++L)[H.length]?=L[0]?:=λL=>aW H L 0;have h1:(decide (x.first<0)||decide (x.first>90))=false:=by have:=hx.first;simp;omega
 have h2:(decide (x.hours<1)||decide (x.hours>3))=false:=by have:=hx.hours;simp;omega
 have h3:(decide (x.an<1)||decide (x.an>3))=false:=by have:=hx.an;simp;omega
 have g3:decide ((3:Int)<x.seen.length)=false:=by have:=hx.Ai;simp;omega
 have g4:decide ((4:Int)<x.pieces.length)=false:=by have:=hx.cT;simp;omega
 have g5:decide ((3:Int)<x.aB.length)=false:=by have:=hx.fi;simp;omega
 refine ak ?_;simp only[seval,bO];refine ak ?_;simp only[seval,aS];refine aK ((sI ?_));(try simp only[seval,h1,aS]);refine aK ((sI ?_));(try simp only[seval,h2,aS]);refine aK ((sI ?_));(try simp only[seval,h3]);refine aD ?_;refine aN ?_;refine ak ?_;simp only[seval,aS,ek,g3];refine aD ?_;refine aN ?_;refine ak ?_;simp only[seval,aS,ek];refine cJ ?_;refine tX x.seen.length (λi:Nat=>[(27,iv i)]) (λ_=>_) (λi=>True) trivial (λcp dz i cW _ R hR=> ?_);refine ai ?_;refine aD ?_;refine⟨λh=> ?_,λh=> ?_⟩
 ·have bG:i<x.seen.length:=by omega
  obtain⟨y,hy⟩:=cz bG;have Cx:=hx.seen y (Tf hy);have bZ:SF.wrap ((i:Int)+1)=((i+1:Nat):Int):=by have:=hx.Ai;rw[bI _ (by omega)];rfl
  refine aN ?_;refine ak ?_;simp only[seval,acg hy,jR bG];refine ak ?_;simp only[seval,aS];refine aK ((ah7 (x:=x) (y:=y) Cx.1 Cx.2 ?_));(try simp only[seval]);refine ak ?_;simp only[seval,F.CB];refine aD ?_;refine aN ?_;refine ak ?_;simp only[seval,bZ];exact hR _ ⟨bG,trivial,Ag (qv rfl rfl) (by simp only[seval];simp[bA,Wk.refl]) cp (by simp[eG])⟩
 ·refine bU ?_;refine ak ?_;simp only[seval,aS,bi,g4];refine aD ?_;refine aN ?_;refine ak ?_;simp only[seval,aS];refine aK ((PE (x:=x) (l:=x.pieces) hx hx.piece hx.cT ?_));(try simp only[seval]);refine ak ?_;simp only[seval,F.CB];refine aD ?_;refine aN ?_;refine ak ?_;simp only[seval,aS,g5];refine aD ?_;refine aN ?_;refine ak ?_;simp only[seval,aS];refine aK ((PE (x:=x) (l:=x.aB) hx hx.stub (by have:=hx.fi;omega) ?_));(try simp only[seval]);refine aK ((ah8 ?_));(try simp only[seval]);refine aZ ?_;exact k_ hH hk
end
def NI (lv:Bool)(H:List aa)(f:AV)(b:Bool):Prop:=∀(L:List aa)(k kp:AV->List aa->Prop),k (bv b) (H++L)->iY lv SC f (H++L) [] k kp
def qG:List AV:=[iv 0,iv 0,iv 0,.sl 0 [] .exact,.sl 0 [] .exact,.sl 0 [] .exact]
def dQ (D:Kn):Int:=if D.has then 0 else 11
theorem xe{x:aj}{deep:Int}{p:Nat}{H:List aa}{k kp:AV->List aa->Prop}{f:AV}{b:Bool}(hx:x.Ok)(hp:x.an=p)(hm:H[0]?=some .main)(hf:NI true H f b)(gV:b=false->k (.aJ [.agg qG,.agg jp,iv 3]) H)(ce:b=true->∀js D L mp,js.Perm (S0 (p+1))->nZ x deep js D->bF D->H.length<=mp->(H++L)[mp]?=some (setH D.aL)->k (.aJ [x.av,.agg (D.l mp),iv (dQ D)]) (H++L)):bc true SC 51 H [x.av,iv deep,f] k kp:=by
 refine bH (rs:=[.cell 6 76,.cell 7 88,.tmp 8]) (nt:=36) Tryz.f51 λhH hA=> ?_;simp only[br,SX,aj.av];have bO:x.l=[iv x.first,iv x.hours,iv x.an,ek x.seen,bi x.pieces,bi x.aB]:=rfl;have aS:∀(L:List aa),(H++L)[H.length]?=L[0]?:=λL=>aW H L 0;have de:∀(L:List aa),(H++L)[H.length+1]?=L[1]?:=λL=>aW H L 1;have ki:∀(L:List aa),(H++L)[H.length+2]?=L[2]?:=λL=>aW H L 2;refine ai ?_;refine ak ?_;simp only[seval,aS,bO];refine aK ((Eo (x:=x) hx ?_));(try simp only[seval]);refine ai ?_;refine aD ?_;refine aN ?_;refine ai ?_;refine w7 (hf _ _ _ ?_);(try simp only[seval]);refine aD ?_;refine⟨λhb=> ?_,λhb=> ?_⟩
 ·have dq:b=false:=by simpa using hb
  have:=gV dq;refine ai ?_;refine oU ?_;simp only[seval,de,ki];exact iJ hH (Wk.refl _) (by simp[iE,tu,eG,qG,jp,LY]) this
 ·have dq:b=true:=by simpa using hb
  refine aN ?_;refine ak ?_;simp only[seval,aS];refine⟨⟨rfl,rfl,rfl⟩,?_⟩;have zp:∀(L:List aa),(H++L)[H.length+3]?=L[3]?:=λL=>aW H L 3;refine ak ?_;simp only[seval,zp];refine aK ((ah4 (x:=x) hx (Dg hx) hp (fF hm) λjs D L5 gU gT bS hl5=> ?_));have bR:=λmp=>Kn.len bS mp;have ep:=tr D;obtain⟨z0,z1,z2,z3,z4,rfl⟩:∃z0 z1 z2 z3 z4,L5=[z0,z1,z2,z3,z4]:=by
   match L5,hl5 with
   |[a,b,c,d,e],_=>exact⟨a,b,c,d,e,rfl⟩
  (try simp only[seval,bR]);refine⟨ep _,?_⟩;have eF:∀(L:List aa)(j:Nat),(H++L)[H.length+j]?=L[j]?:=λL j=>aW H L j;have zI:∀(L:List aa)(j:Nat)(y:aa),(H++L).set (H.length+j) y=H++L.set j y:=λL j y=>ez H L j y;have ajH:∀(L:List aa),(H++L)[H.length+10]?=L[10]?:=λL=>aW H L 10;obtain⟨mp,rB⟩:∃mp,mp=H.length+4+5:=⟨_,rfl⟩;rw[<- rB];refine ak ?_;simp only[seval,ajH,Kn.Bu];obtain⟨ln,ff⟩:∃ln:List AV->List AV->List aa,∀u v,ln u v=H++[.cells x.l 26,.cells u 76,.cells v 88,.cells x.l 76,z0,z1,z2,z3,z4,setH D.aL,.cells (D.l mp) 88]:=⟨_,λ_ _=>rfl⟩;have p1:∀u v,(ln u v)[H.length+1]?=some (.cells u 76):=λu v=>by rw[ff,eF];rfl
  have p2:∀u v,(ln u v)[H.length+2]?=some (.cells v 88):=λu v=>by rw[ff,eF];rfl
  have p3:∀u v,(ln u v)[H.length+3]?=some (.cells x.l 76):=λu v=>by rw[ff,eF];rfl
  have p10:∀u v,(ln u v)[H.length+10]?=some (.cells (D.l mp) 88):=λu v=>by rw[ff,eF];rfl
  have s1:∀u v w,(ln u v).set (H.length+1) (.cells w 76)=ln w v:=λu v w=>by rw[ff,zI,ff];rfl
  have s2:∀u v w,(ln u v).set (H.length+2) (.cells w 88)=ln u w:=λu v w=>by rw[ff,zI,ff];rfl
  have eo:∀(e:Int),e=dQ D->k (.aJ [x.av,.agg (D.l mp),iv e]) (ln x.l (D.l mp)):=λe he=>by
   rw[he,ff];refine ce dq js D _ mp gU gT bS (by omega) ?_;rw[rB,show H.length+4+5=H.length+9 from rfl,eF];rfl
  have e0:=ff qG jp;simp only[qG,jp,bO,iv,bv,wv,TL,VE,Uw,push_cast,Int.cast_ofNat_Int]at e0;rw[<- e0];clear e0;have bf:x.l.length=6:=rfl;have oE:jp.length=28:=rfl;have Sp:qG.length=6:=rfl;have dZ:Un 6 x.l=x.l:=rfl;have FO:Un 28 (D.l mp)=D.l mp:=SY (by rw[bR];exact SU _);have vW:∀l:List AV,l.length=28->D.l mp++UD (D.l mp).length l=D.l mp:=λl hl=>by rw[bR,TO (by omega),SZ]
  have Sn:∀a∈x.l,a.leaf=true:=λa ha=>by
   simp only[aj.l,SL,S4,or_false]at ha;rcases ha with rfl|rfl|rfl|rfl|rfl|rfl<;>rfl
  refine aD ?_;refine⟨λhh=> ?_,λhh=> ?_⟩
  ·have Js:D.has=false:=(by simpa using hh);have:=eo 11 (by rw[dQ,Js];rfl);refine qU [2,3] [0,1,2,3,4] [⟨0,false,[],[]⟩,⟨1,false,[],[([2],[2])]⟩,⟨2,true,[2],[]⟩,⟨3,true,[2,3],[]⟩,⟨4,false,[2,3],[]⟩] (λD'=>bif isDone 3 D' then ln x.l (D.l mp)else bif isDone 2 D' then ln x.l jp else ln qG jp) ?_;simp only[seval,p1,p2,p3,p10,s1,s2,bR,bf,oE,Sp,ep];rw[dZ,FO];refine⟨rfl,SU _,Sn,rfl,bR _,by rw[bR];exact SU _,ep _,by rw[vW _ rfl];rfl,?_⟩;refine oU ?_;simp only[seval,p1,p2,bR];rw[FO];refine ew (a:=[x.av,.agg (D.l mp),iv 11]) rfl ?_;exact cm this
  ·have Js:D.has=true:=(by simpa using hh);have:=eo 0 (by rw[dQ,Js];rfl);refine aN ?_;refine qU [2,3] [0,1,2,3,4] [⟨0,false,[],[]⟩,⟨1,false,[],[([2],[2])]⟩,⟨2,true,[2],[]⟩,⟨3,true,[2,3],[]⟩,⟨4,false,[2,3],[]⟩] (λD'=>bif isDone 3 D' then ln x.l (D.l mp)else bif isDone 2 D' then ln x.l jp else ln qG jp) ?_;simp only[seval,p1,p2,p3,p10,s1,s2,bR,bf,oE,Sp,ep];rw[dZ,FO];refine⟨rfl,SU _,Sn,rfl,bR _,by rw[bR];exact SU _,ep _,by rw[vW _ rfl];rfl,?_⟩;refine oU ?_;simp only[seval,p1,p2,bR];rw[FO];refine ew (a:=[x.av,.agg (D.l mp),iv 0]) rfl ?_;exact cm this
namespace Tk
def fC (s:Nat)(more:Int)(i:Nat):List Int:=((S0 i).filter s.testBit).map λn:Nat=>(n:Int)+more
theorem aav(s:Nat)(more:Int)(i:Nat):fC s more (i+1)=if s.testBit i then fC s more i++[(i:Int)+more]else fC s more i:=by
 unfold fC;rw[Vk,List.filter_append,TF];by_cases h:s.testBit i=true
 ·simp[h]
 ·simp[h]
theorem LV(s:Nat)(more:Int)(i:Nat):(fC s more i).length<=i:=by
 unfold fC;rw[To];exact UB (List.length_filter_le _ _) (by simp)
end Tk
theorem z1:gM (SG .i64 0) 1=[iv 0]:=rfl
section
variable {lv:Bool}{H:List aa}{k kp:AV->List aa->Prop}
theorem En{s:Nat}{more:Int}(hs:s<65536)(hm:0<=more/\more<=1000)(hk:k (bk (fC s more 16)) H):bc lv SC 56 H [wv s,iv more] k kp:=by
 refine bH (rs:=[.tmp 4]) (nt:=21) Tryz.f56 λhH hA=> ?_;simp only[br,SX];refine ai ?_;refine ai ?_
 (repeat apply gQ);refine vu (t:=5) (sz:=1) (el:=3) (by simp only[seval]<;>rfl) ?_
 refine ai ?_;refine cJ ?_;refine gP 16 (λi:Nat=>[(5,.sl (fC s more i).length ((fC s more i).map iv) (.opn H.length)),(7,iv i)]) (λi=>H++[.tail (fC s more i).length 1 3]) (λ_=>True) (λ_ _=>rfl) (by simp only[seval];simp[bA,Wk.refl];exact Wk.refl _) rfl (λ_ _ _=>by simp) trivial (λcp dz i cW hi R hR=> ?_);refine ai ?_;refine aD ?_;refine⟨λh=> ?_,λh=> ?_⟩
 ·have hl:i<16:=by omega
  have fU:SF.wrap ((i:Int)+1)=((i+1:Nat):Int):=by rw[bI _ (by omega)];rfl
  have uu:SF.wrap ((i:Int)+more)=(i:Int)+more:=bI _ (by omega);have je:=LV s more i;refine aN ?_;refine ai ?_;refine ai ?_;refine aK ((ug hs ?_));(try simp only[seval]);refine aD ?_;refine⟨λhb=> ?_,λhb=> ?_⟩
  ·refine ak ?_;simp only[seval,z1,uu]
   first|refine⟨by decide,by omega,?_⟩|refine⟨by omega,?_⟩
   refine ak ?_;simp only[seval,fU];have dg:fC s more (i+1)=fC s more i++[(i:Int)+more]:=(by rw[aav,if_pos hb]);refine hR _ ⟨hl,trivial,?_⟩;rw[dg,TF,SQ];exact dE
  ·refine aN ?_;refine ak ?_;simp only[seval,fU];have dg:fC s more (i+1)=fC s more i:=(by rw[aav,if_neg (by simpa using hb)]);refine hR _ ⟨hl,trivial,?_⟩;rw[dg];exact dE
 ·refine bU ?_;have:i=16:=by omega
  subst this;refine ai ?_;refine aZ ?_;rw[bk]at hk;exact iJ hH (iX _ _ _) (by simp[tw,eG]) hk
theorem ah6{x:aj}{n:Int}{ir:Nat}(hx:x.Ok)(hr:H[ir]?=some (.cells x.l 26))(hk:k (bv (decide (n<0)||decide (n>(x.pieces.length:Int)-1))) H):bc lv SC 82 H [iv n,.op ir 0] k kp:=by
 refine bH (rs:=[.tmp 3]) (nt:=10) Tryz.f82 λhH hA=> ?_;simp only[br,SX];have bO:x.l=[iv x.first,iv x.hours,iv x.an,ek x.seen,bi x.pieces,bi x.aB]:=rfl;have lq:=hx.cT;have hw:SF.wrap ((x.pieces.length:Int)-1)=(x.pieces.length:Int)-1:=bI _ (by omega);refine ai ?_;refine ak ?_;simp only[seval,hr,bO,bi,hw];refine aK ((sI ?_));(try simp only[seval]);refine aZ ?_;exact cm hk
theorem ahi{ns:List Int}{f:AV}{e:End}(jf:ns.length<=4)(g:Int->Bool)(hf:∀n∈ns,∀(k kp:AV->List aa->Prop),k (bv (g n)) H->iY lv SC f H [iv n] k kp)(hk:k (iv (match ns.findIdx? g with|some i=>(i:Int)|none=> -1)) H):bc lv SC 103 H [.sl ns.length (ns.map iv) e,f] k kp:=by
 refine bH (rs:=[.tmp 4]) (nt:=19) Tryz.f103 λhH hA=> ?_;simp only[br,SX];refine ai ?_;refine ai ?_;refine cJ ?_;refine tX ns.length (λi:Nat=>[(8,iv i)]) (λ_=>_) (λi=>∀n∈ns.take i,g n=false) (by simp) (λcp dz i cW hi R hR=> ?_);refine ai ?_;refine aD ?_;refine⟨λh=> ?_,λh=> ?_⟩
 ·have bG:i<ns.length:=by omega
  obtain⟨n,hn⟩:=cz bG;have fU:SF.wrap ((i:Int)+1)=((i+1:Nat):Int):=by rw[bI _ (by omega)];rfl
  refine aN ?_;refine ai ?_;refine ak ?_;simp only[seval,fN hn,jR bG];refine w7 (hf n (Tf hn) _ _ ?_);(try simp only[seval]);refine aD ?_;refine⟨λhg=> ?_,λhg=> ?_⟩
  ·refine ai ?_;refine aZ ?_;have:ns.findIdx? g=some i:=by
    rw[Xv];refine⟨bG,?_,λj hj=> ?_⟩
    ·rw[SP bG]at hn;cases hn;exact hg
    ·have:=hi ns[j] (by rw[List.mem_take_iff_getElem];exact⟨j,by omega,rfl⟩);simp[this]
   rw[this]at hk;exact cm hk
  ·refine aN ?_;refine ak ?_;simp only[seval,fU];refine hR _ ⟨bG,λm hm=> ?_,dE⟩;rw[VJ,hn]at hm;rcases SV.1 hm with h'|h'
   ·exact hi m h'
   ·simp at h';rw[h'];simpa using hg
 ·have:i=ns.length:=by omega
  subst this;rw[TP]at hi;refine bU ?_;refine ai ?_;refine aZ ?_;have:ns.findIdx? g=none:=by rw[Yf];exactλn hn=>hi n hn
  rw[this]at hk;exact cm hk
theorem ah5{ns:List Int}{f:AV}{e:End}(jf:ns.length<=4)(g:Int->Bool)(hf:∀n∈ns,∀(k kp:AV->List aa->Prop),k (bv (g n)) H->iY lv SC f H [iv n] k kp)(hk:k (bv (ns.any g)) H):bc lv SC 81 H [.sl ns.length (ns.map iv) e,f] k kp:=by
 refine bH (rs:=[.tmp 4]) (nt:=9) Tryz.f81 λhH hA=> ?_;simp only[br,SX];refine ai ?_;refine ai ?_;refine aK ((ahi jf g hf ?_));(try simp only[seval]);refine aZ ?_;refine cm ?_;have:decide ((match ns.findIdx? g with|some i=>(i:Int)|none=> -1)>=0)=ns.any g:=by
  cases h:ns.findIdx? g with
  |none=>
   rw[Yf]at h;have:ns.any g=false:=by
    rw[List.any_eq_false];exactλn hn=>by simp[h n hn]
   rw[this];rfl
  |some i=>
   rw[Xv]at h;obtain⟨h1,h2,_⟩:=h;have:ns.any g=true:=UL.2 ⟨ns[i],VF h1,h2⟩;rw[this];simp
 rw[this];exact hk
def uT (x:aj)(ns:List Int):Bool:= !(ns.any λn=>decide (n<0)||decide (n>(x.pieces.length:Int)-1))
theorem Er{x:aj}{ns:List Int}{e:End}{il ir:Nat}(hx:x.Ok)(jf:ns.length<=4)(hl:H[il]?=some (.cells [.sl ns.length (ns.map iv) e] 22))(hr:H[ir]?=some (.cells x.l 26))(hk:k (bv (uT x ns)) H):bc lv SC 80 H [.op il 0,.op ir 0] k kp:=by
 refine bH (rs:=[.tmp 2]) (nt:=7) Tryz.f80 λhH hA=> ?_;simp only[br,SX];refine ai ?_;refine ak ?_;simp only[seval,hl,Ue,UF,Uf,TS];refine aK ((ah5 (ns:=ns) jf (λn=>decide (n<0)||decide (n>(x.pieces.length:Int)-1)) (λn hn k kp hk=> ?_) ?_))
 ·exact cO (ah6 hx hr hk)
 (try simp only[seval]);refine aZ ?_;exact cm hk
theorem nq{x:aj}{ns:List Int}{e:End}(hk:k (.fn (.func 80) [] [.op (H.length+1) 0,.op H.length 0]) (H++[.cells x.l 26,.cells [.sl ns.length (ns.map iv) e] 22])):bc lv SC 58 H [x.av,.sl ns.length (ns.map iv) e] k kp:=by
 refine bH (rs:=[.tmp 4]) (nt:=6) Tryz.f58 λhH hA=> ?_;simp only[br,SX,aj.av];refine ai ?_;refine ak ?_;simp only[seval,Ue,UF,Uf,TS];refine aZ ?_;exact cm hk
end
open Go.Conc Go.Proofs Go.Gg.Tk
structure bt where
 aA:List Int
 g:Int
 s:Int
def Aq (τ:bt):aa:=.cells [bk τ.aA,.val (.int .i64 τ.g),.val (.int .u64 τ.s)] 73
def HB (a b:Int):Int:=TA.wrap (Ud TA.bits a^^^Ud TA.bits b).toNat
def adh (g:Int):Int:=TA.wrap (TA.wrap (TA.wrap g* 15074714826142052245)+11400714819323198485)
def Nr (τ:bt):Int:=match τ.aA[τ.g.toNat]?with
 |some x=>HB (adh τ.g) (TA.wrap (TA.wrap x* 12620523164723586485))
 |none=>adh τ.g
def amU (s w:Int):Int:=TA.wrap (TA.wrap (s+w)* 13787848793156543929)
def amV (s:Int):Int:=HB s (s.fdiv (2^min 31 TA.bits))
def GI (s:Int):Int:=(HB s (s.fdiv (2^min 27 TA.bits))).fdiv (2^min 9 TA.bits)
def tick (τ:bt):bt:=⟨τ.aA,τ.g+1,amV (amU τ.s (Nr τ))⟩
def wx (τ:bt):Int:=GI (TA.wrap ((tick τ).s* 10723151780598845931))
theorem ac9(n:Int)(h0:0<=n)(h:n<2^64):TA.wrap n=n:=by
 have h1:TA.bits=64:=rfl;have h2:TA.signed=false:=rfl;unfold Xe;rw[h1,h2];simp;omega
theorem arq(n:Int):0<=TA.wrap n/\TA.wrap n<2^64:=by
 have h1:TA.bits=64:=rfl;have h2:TA.signed=false:=rfl;unfold Xe;rw[h1,h2];simp;omega
theorem abg(s:Int):0<=GI s/\GI s<2^55:=by
 unfold GI HB;have h:=arq (Ud TA.bits s^^^Ud TA.bits (s.fdiv (2^min 27 TA.bits))).toNat;have e:(2:Int)^min 9 TA.bits=512:=by decide
 rw[e,Int.fdiv_eq_ediv_of_nonneg _ (show (0:Int)<=512 by decide)];omega
def dI (τ:bt)(n:Int):Int:=if n<1 then 0 else(wx τ).tmod (n+1)
theorem mY(τ:bt)(n:Int):0<=dI τ n/\(dI τ n<=n\/dI τ n=0):=by
 unfold dI;split
 ·omega
 ·have h:=(abg (TA.wrap ((tick τ).s* 10723151780598845931))).1;have h1:=Int.tmod_nonneg (n+1) h;have h2:=Int.tmod_lt_of_pos (wx τ) (show 0<n+1 by omega);unfold wx at h2⊢;omega
def Dl (τ:bt)(lo hi:Int):Int:=lo+dI τ (hi-lo)
theorem arF(τ:bt){lo hi:Int}(h:lo<=hi):lo<=Dl τ lo hi/\Dl τ lo hi<=hi:=by
 have:=mY τ (hi-lo);unfold Dl;omega
def aoW (τ:bt)(n:Int):Bool:=dI τ (n-1)==0
structure eg (Gf:bt->List aa)(t N:Nat):Prop where
 len:∀τ,(Gf τ).length=N
 get:∀τ,(Gf τ)[t]?=some (Aq τ)
 set:∀τ τ',(Gf τ).set t (Aq τ')=Gf τ'
 ok:∀m τ τ',(∀z∈Gf τ,fj m z)->∀z∈Gf τ',fj m z
theorem eg.more{Gf:bt->List aa}{t N:Nat}(h:eg Gf t N)(L:List aa):eg (λτ=>Gf τ++L) t (N+L.length)where
 len:=λτ=>by simp[h.len]
 get:=λτ=>fF (h.get τ)
 set:=λτ τ'=>by show (Gf τ++L).set t _=_;rw[Wz _ _ (eX (h.get τ)),h.set]
 ok:=λm τ τ' hk z hz=>(SV.1 hz).elim (λhz=>h.ok m τ τ' (λv hv=>hk v (Th _ hv)) z hz) (λhz=>hk z (S5 _ hz))
theorem eg.am{Gf:bt->List aa}{t N:Nat}(h:eg Gf t N){τ:bt}(hH:bQ (Gf τ))(τ':bt):bQ (Gf τ'):=λz hz=>by
 have:=h.ok N τ τ' (λw hw=>by have:=hH w hw;rwa [h.len]at this) z hz;rwa [h.len]
section
variable {Gf:bt->List aa}{t N:Nat}(h:eg Gf t N)
include h
theorem eg.g0(τ:bt)(L:List aa):(Gf τ++L)[N]?=L[0]?:=by have:=vp (Gf τ) L 0;rwa [h.len]at this
theorem eg.g1(τ:bt)(L:List aa):(Gf τ++L)[N+1]?=L[1]?:=by have:=vp (Gf τ) L 1;rwa [h.len]at this
theorem eg.g2(τ:bt)(L:List aa):(Gf τ++L)[N+1+1]?=L[2]?:=by have:=vp (Gf τ) L 2;rwa [h.len]at this
theorem eg.g3(τ:bt)(L:List aa):(Gf τ++L)[N+1+1+1]?=L[3]?:=by have:=vp (Gf τ) L 3;rwa [h.len]at this
theorem eg.h2(τ:bt)(L:List aa):(Gf τ++L)[N+2]?=L[2]?:=h.g2 τ L
theorem eg.h3(τ:bt)(L:List aa):(Gf τ++L)[N+3]?=L[3]?:=h.g3 τ L
theorem eg.s0(τ:bt)(L:List aa)(x:aa):(Gf τ++L).set N x=Gf τ++L.set 0 x:=by have:=vq (Gf τ) L 0 x;rwa [h.len]at this
theorem eg.s1(τ:bt)(L:List aa)(x:aa):(Gf τ++L).set (N+1) x=Gf τ++L.set 1 x:=by have:=vq (Gf τ) L 1 x;rwa [h.len]at this
theorem eg.s2(τ:bt)(L:List aa)(x:aa):(Gf τ++L).set (N+1+1) x=Gf τ++L.set 2 x:=by have:=vq (Gf τ) L 2 x;rwa [h.len]at this
theorem eg.s3(τ:bt)(L:List aa)(x:aa):(Gf τ++L).set (N+1+1+1) x=Gf τ++L.set 3 x:=by have:=vq (Gf τ) L 3 x;rwa [h.len]at this
theorem eg.t2(τ:bt)(L:List aa)(x:aa):(Gf τ++L).set (N+2) x=Gf τ++L.set 2 x:=h.s2 τ L x
theorem eg.t3(τ:bt)(L:List aa)(x:aa):(Gf τ++L).set (N+3) x=Gf τ++L.set 3 x:=h.s3 τ L x
end
theorem anr(m:Nat)(τ:bt):fj m (Aq τ):=by
 intro a ha;simp only[SL,S4,or_false]at ha;rcases ha with rfl|rfl|rfl
 ·rw[zV];trivial
 ·exact .val _
 ·exact .val _
theorem ara(H:List aa):eg (λτ=>H++[Aq τ]) H.length (H.length+1)where
 len:=λτ=>by simp
 get:=λτ=>by simp
 set:=λτ τ'=>by simp
 ok:=λm τ τ' hk z hz=>by
  rcases SV.1 hz with hz|hz
  ·exact hk z (Th _ hz)
  ·rw[Tb.1 hz];exact anr _ _
structure bt.Ok (τ:bt)(b:Int):Prop where
 g0:0<=τ.g
 g:τ.g<=b
 len:τ.aA.length<=2^50
section
variable {lv:Bool}{H:List aa}{k kp:AV->List aa->Prop}{Gf:bt->List aa}{t N:Nat}{τ:bt}{b:Int}
theorem ahx{aA:List Int}(hk:k (.op H.length 0) (H++[Aq ⟨aA,0,7640891576956012809⟩])):bc lv SC 16 H [bk aA] k kp:=by
 refine bH (rs:=[.tmp 2]) (nt:=6) Tryz.f16 λhH hA=> ?_;simp only[br,SX];refine ai ?_;refine ai ?_;refine aZ ?_;exact cm hk
theorem bt.Ok.tick(h:τ.Ok b):(tick τ).Ok (b+1):=⟨by have:=h.g0;show 0<=τ.g+1;omega,by have:=h.g;show τ.g+1<=b+1;omega,h.len⟩
theorem bt.Ok.mono{b':Int}(h:τ.Ok b)(hb:b<=b'):τ.Ok b':=⟨h.g0,by have:=h.g;omega,h.len⟩
theorem ahV(hT:eg Gf t N)(hτ:τ.Ok b)(hb:b<2^60)(hk:k (.val (.int .u64 (wx τ))) (Gf (tick τ))):bc lv SC 55 (Gf τ) [.op t 0] k kp:=by
 obtain⟨aA,g,s⟩:=τ;obtain⟨oy,hgb,Rj⟩:=hτ;simp only at oy hgb Rj;refine bH (rs:=[.tmp 2]) (nt:=76) Tryz.f55 λhH hA=> ?_;simp only[br,SX];have hg:∀τ,(Gf τ)[t]?=some (.cells [.sl τ.aA.length (τ.aA.map iv) .shut,.val (.int .i64 τ.g),.val (.int .u64 τ.s)] 73):=hT.get;have hs:∀τ (CW:List Int) g' s',(Gf τ).set t (.cells [.sl CW.length (CW.map iv) .shut,.val (.int .i64 g'),.val (.int .u64 s')] 73)=Gf ⟨CW,g',s'⟩:=λτ CW g' s'=>hT.set τ ⟨CW,g',s'⟩;obtain⟨n,rfl⟩:∃n:Nat,g=n:=⟨g.toNat,by omega⟩;have hw:SF.wrap ((n:Int)+1)=n+1:=bI _ (by omega);refine ai ?_;refine ak ?_;simp only[seval,hg];refine eO 9 ?_;simp only[seval,hg];refine aD ?_;refine⟨λh=> ?_,λh=> ?_⟩
 ·have jX:n<aA.length:=by simpa using h
  obtain⟨x,hx⟩:=cz jX;refine eO 13 ?_;simp only[seval,hg,fN hx,jR jX,A5];refine ak ?_;simp only[seval,hg,hw,hs];refine ak ?_;simp only[seval,hg,hs];refine eO 11 ?_;simp only[seval,hg,hs,A4,A5];refine ak ?_;simp only[seval,hg];refine ak ?_;simp only[seval,A4,A5];refine aZ ?_;refine cm ?_;unfold wx tick Nr at hk;simp only[Vz,hx]at hk;exact hk
 ·have jX:¬n<aA.length:=by simpa using h
  have hx:aA[n]?=none:=by rw[Uu];omega
  refine aN ?_;refine ak ?_;simp only[seval,hg,hw,hs];refine ak ?_;simp only[seval,hg,hs];refine eO 11 ?_;simp only[seval,hg,hs,A4,A5];refine ak ?_;simp only[seval,hg];refine ak ?_;simp only[seval,A4,A5];refine aZ ?_;refine cm ?_;unfold wx tick Nr at hk;simp only[Vz,hx]at hk;exact hk
theorem sH{n:Int}(hT:eg Gf t N)(hτ:τ.Ok b)(hb:b<2^60)(hn:n<2^60)(hk:k (iv (dI τ n)) (Gf (tick τ))):bc lv SC 25 (Gf τ) [.op t 0,iv n] k kp:=by
 refine bH (rs:=[.tmp 4]) (nt:=16) Tryz.f25 λhH hA=> ?_;simp only[br,SX];refine ai ?_;refine ai ?_;refine aK ((ahV hT hτ hb ?_));(try simp only[seval]);refine ai ?_;refine aD ?_;refine⟨λh=> ?_,λh=> ?_⟩
 ·have h:n<1:=by simpa using h
  refine ai ?_;refine aZ ?_;rw[dI,if_pos h]at hk;exact cm hk
 ·have h:¬n<1:=by simpa using h
  have ho:=abg (TA.wrap ((tick τ).s* 10723151780598845931));have bZ:TA.wrap n=n:=ac9 n (by omega) (by omega);have gY:TA.wrap (n+1)=n+1:=ac9 _ (by omega) (by omega);have oC:n+1≠0:=by omega
  have hr:=mY τ n;rw[dI,if_neg h]at hk hr;have wc:SF.wrap ((wx τ).tmod (n+1))=(wx τ).tmod (n+1):=bI _ (by omega);refine aN ?_;refine ak ?_;simp only[seval,aej,bZ,gY,wc,oC];refine aZ ?_;exact cm hk
theorem ahD{lo hi:Int}(hT:eg Gf t N)(hτ:τ.Ok b)(hb:b<2^60)(pc:0<=lo/\lo<2^20)(Ff: -1<=hi/\hi<2^20)(hk:k (iv (Dl τ lo hi)) (Gf (tick τ))):bc lv SC 23 (Gf τ) [.op t 0,iv lo,iv hi] k kp:=by
 refine bH (rs:=[.tmp 6]) (nt:=14) Tryz.f23 λhH hA=> ?_;simp only[br,SX];have bZ:SF.wrap (hi-lo)=hi-lo:=bI _ (by omega);have hr:=mY τ (hi-lo);have gY:SF.wrap (lo+dI τ (hi-lo))=lo+dI τ (hi-lo):=bI _ (by omega);refine ai ?_;refine ak ?_;simp only[seval,bZ];refine aK ((sH hT hτ hb (by omega) ?_));(try simp only[seval,gY]);refine aZ ?_;exact cm hk
theorem PA{n:Int}(hT:eg Gf t N)(hτ:τ.Ok b)(hb:b<2^60)(hn:0<=n/\n<2^20)(hk:k (bv (aoW τ n)) (Gf (tick τ))):bc lv SC 46 (Gf τ) [.op t 0,iv n] k kp:=by
 refine bH (rs:=[.tmp 4]) (nt:=10) Tryz.f46 λhH hA=> ?_;simp only[br,SX];have bZ:SF.wrap (n-1)=n-1:=bI _ (by omega);refine ai ?_;refine ak ?_;simp only[seval,bZ];refine aK ((sH hT hτ hb (by omega) ?_));(try simp only[seval]);refine aZ ?_;exact cm hk
end
theorem wn{α:Type}{xs:List α}{i:Nat}{x:α}(h:xs[i]?=some x):x∈xs:=Tf h
section
variable {lv:Bool}{H:List aa}{k kp:AV->List aa->Prop}
inductive sw:List AV->List AV->Prop
 |nil:sw [] []
 |cons {a b:AV} {l m:List AV} (h:Wk a b) (t:sw l m):sw (a::l) (b::m)
theorem sw.len{l m:List AV}(h:sw l m):l.length=m.length:=by
 induction h with
 |nil=>rfl
 |cons _ _ ih=>simp[ih]
theorem sw.at{l m:List AV}(h:sw l m):∀(i:Nat)(a b:AV),m[i]?=some a->l[i]?=some b->Wk b a:=by
 induction h with
 |nil=>intro i a b h;simp at h
 |cons h _ ih=>
  intro i a b h1 h2
  match i with
  |0=>cases h1;cases h2;exact h
  |i+1=>exact ih i a b h1 h2
theorem Np{l l':List AV}(h:sw l l'):Wk (.agg l) (.agg l'):=λE v hd=>by
 cases hd with
 |agg hs h1=>
  refine .agg (by rw[hs,h.len]) λi x hx=> ?_;obtain⟨y,hy⟩:=cz (xs:=l) (i:=i) (by rw[h.len];exact eX hx);exact h.at i x y hx hy E _ (h1 i y hy)
theorem Nq{n:Nat}{l l':List AV}{e:End}(hl:l.length=l'.length)(h:∀(i:Nat) a b,l'[i]?=some a->l[i]?=some b->Wk b a):Wk (.sl n l e) (.sl n l' e):=λE v hd=>by
 cases hd with
 |sl b o cap f hc he h1 h2=>
  refine .sl b o cap f hc he (λi hi=>h1 i (by omega)) λi x hx=> ?_;obtain⟨y,hy⟩:=cz (xs:=l) (i:=i) (by have:=eX hx;omega);exact h i x y hx hy E _ (h2 i y hy)
 |nil he=>
  have:l'=[]:=List.eq_nil_of_length_eq_zero hl.symm;subst this;exact .nil he
theorem Mh:(1<=2^24)=True:=by simp
theorem RB{H L:List aa}(h:bQ H)(hL:∀z∈L,∀n,fj n z):bQ (H++L):=λz hz=>by
 rcases SV.1 hz with h'|h'
 ·exact(h z h').mono (by simp)
 ·exact hL z h' _
theorem MP{base Vi Vn T:List (Nat×AV)}{H H':List aa}(G:List aa)(hk:so T (Vi++base) Vn)(hv:∀p∈Vn,∃b,look T p.1=some b/\Wk b p.2)(am:bQ H)(hlt:∀p∈Vn,Lt H.length p.2)(hG:H'=H++G):tU base Vi Vn H ⟨T,H'⟩:=⟨hk,hv,G,hG,.inr ⟨am,hlt⟩⟩
theorem aqV{xs ys:List Int}{i:Nat}{x y:Int}(hx:xs[i]?=some x)(hy:ys[i]?=some y)(h:xs.take i=ys.take i)(e:x=y):xs.take (i+1)=ys.take (i+1):=by
 obtain⟨hj,rfl⟩:=SN.1 hx;obtain⟨hk,rfl⟩:=SN.1 hy;rw[XL hj,XL hk,h,e]
theorem yZ{xs ys:List Int}{e e':End}(hx:xs.length<2^60)(hk:k (bv (decide (xs=ys))) H):bc lv SC 20 H [.sl xs.length (xs.map iv) e,.sl ys.length (ys.map iv) e'] k kp:=by
 refine bH (rs:=[.tmp 4]) (nt:=26) Tryz.f20 λhH hA=> ?_;simp only[br,SX];refine ai ?_;refine ai ?_;refine aD ?_;refine⟨λh=> ?_,λh=> ?_⟩
 ·have h:xs≠ys:=λe=>by subst e;simp at h
  refine ai ?_;refine aZ ?_;rw[decide_eq_false h]at hk;exact cm hk
 ·have h:xs.length=ys.length:=by
   have h:(xs.length:Int)=ys.length:=(by simpa using h);omega
  refine aN ?_;refine ai ?_;refine cJ ?_;refine tX xs.length (λi:Nat=>[(5,iv i)]) (λ_=>_) (λi=>xs.take i=ys.take i) (by simp) (λcp dz i cW hi R hR=> ?_);refine ai ?_;refine aD ?_;refine⟨λh2=> ?_,λh2=> ?_⟩
  ·have hlt:i<xs.length:=(by omega);obtain⟨x,Cu⟩:=cz hlt;obtain⟨y,fZ⟩:=cz (xs:=ys) (i:=i) (by omega);refine aN ?_;refine cJ ?_;refine eO 8 ?_;simp only[seval,fN Cu,fN fZ,jR hlt,jR (eX fZ)];refine aD ?_;refine⟨λh3=> ?_,λh3=> ?_⟩
   ·have h3:xs≠ys:=λe=>(by subst e;rw[Cu]at fZ;cases fZ;simp at h3);refine ai ?_;refine aZ ?_;rw[decide_eq_false h3]at hk;exact cm hk
   ·have h3:x=y:=(by simpa using h3);refine aN ?_;refine ai ?_;refine hR _ ⟨hlt,aqV Cu fZ hi h3,?_⟩;rw[bI _ (by omega)];exact dE
  ·have sW:i=xs.length:=(by omega);refine bU ?_;refine ai ?_;refine aZ ?_;have h3:xs=ys:=by
    rw[sW,TP]at hi;rw[hi,h,TP]
   rw[decide_eq_true h3]at hk;exact cm hk
end
def eB (x:aj)(deep:Int)(D:Kn):Prop:=∃(p:Nat)(js:List Nat),x.an=p/\js.Perm (S0 (p+1))/\nZ x deep js D/\bF D
theorem kx(x:aj):∀a∈x.l,a.leaf=true:=λa ha=>by
 simp only[aj.l,SL,S4,or_false]at ha;rcases ha with rfl|rfl|rfl|rfl|rfl|rfl<;>rfl
section
variable {H:List aa}{k kp:AV->List aa->Prop}
theorem D4{lv:Bool}:NI lv H (.fn (.func 52) [] []) true:=λL k kp hk=>cO (ahS hk)
theorem ahB{x:aj}(hx:x.Ok)(hm:H[0]?=some .main)(hk:∀D,eB x 0 D->k (.aJ [iv (if D.has then(D.aL.length:Int)else 0),iv 0]) H):bc true SC 21 H [x.av] k kp:=by
 refine bH (rs:=[.tmp 2,.tmp 3]) (nt:=19) Tryz.f21 λhH hA=> ?_;simp only[br,SX,aj.av];have hp:=hx.an;obtain⟨p,dY⟩:∃p:Nat,x.an=p:=⟨x.an.toNat,by omega⟩;have bO:x.l=[iv x.first,iv x.hours,iv x.an,ek x.seen,bi x.pieces,bi x.aB]:=rfl;have aS:∀(L:List aa),(H++L)[H.length]?=L[0]?:=λL=>aW H L 0;have bf:x.l.length=6:=rfl;have dZ:Un 6 x.l=x.l:=rfl;refine ai ?_;refine ak ?_;simp only[seval,aS,bf,dZ];refine aK ((xe (x:=x) hx dY (fF hm) D4 (λh=>by cases h) λ_ js D L mp gU gT bS rB hg=> ?_));have eD:eB x 0 D:=⟨p,js,dY,gU,gT,bS⟩;have bR:=Kn.len bS mp;have ep:=tr D mp;obtain⟨B,hB⟩:∃B,B=H++[aa.cells x.l 26]++L:=⟨_,rfl⟩;rw[<- hB]at hg⊢;(try simp only[seval,aj.av,bf,bR]);refine⟨kx x,ep,?_⟩;have eK:∀(L':List aa)(n:Int),k (.aJ [iv n,iv 0]) H->cw H.length (B++L') (.aJ [iv n,iv 0]) k:=λL' n h=>by
  rw[hB,SD,SD];exact iJ hH (Wk.refl _) (by simp[iE,eG]) h
 have mN:∀(L':List aa),(B++L')[B.length+1]?=L'[1]?:=λL'=>aW B L' 1;have v5:∀(L':List aa),(B++L')[mp]?=some (.obj (.map (D.aL.zipIdx.map eI).toArray D.aL.length)):=λL'=>fF hg;have de:(D.l mp).drop 1=.mp mp::((D.l mp).drop 2):=rfl;have aE:=hk D eD;cases hh:D.has with
 |false=>
  have hE:dQ D=11:=by rw[dQ,hh];rfl
  rw[hh]at aE;refine ak ?_;simp only[seval,hE,show ((11:Int)==11)=true from rfl];refine aD ?_;refine ai ?_;refine aZ ?_;exact eK _ 0 aE
 |true=>
  have hE:dQ D=0:=by rw[dQ,hh];rfl
  rw[hh]at aE;refine ak ?_;simp only[seval,hE,show ((0:Int)==11)=false from rfl];refine aD ?_;refine aN ?_;refine ak ?_;simp only[seval,mN,de,v5];have aU:(D.aL.zipIdx.map eI).toArray.size=D.aL.length:=by simp
  rw[adQ _ _ _ _ _ F.NL (v5 _),aU];refine aZ ?_;exact eK _ _ aE
end
namespace Tk
def vM (some other:Bool):Int:=if some&&other then 3 else if some then 1 else 2
end Tk
open Go.Conc Go.Proofs Go.Gg.Tk
section
variable {lv:Bool}{H:List aa}{k kp:AV->List aa->Prop}
theorem ahX{D:Kn}{mp a b:Nat}(hD:bF D)(ha:a<4)(hb:b<4)(hk:k (iv (vM ((D.less.getD a 0).testBit b) ((D.less.getD b 0).testBit a))) H):bc lv SC 60 H [.agg (D.l mp),.c9 116 (.agg [iv a,iv b])] k kp:=by
 refine bH (rs:=[.tmp 4]) (nt:=65) ao_ λhH hA=> ?_;simp only[br,SX];have bR:=Kn.len hD mp;obtain⟨u,hu⟩:=cz (xs:=D.less) (i:=a) (by rw[hD.less];exact ha);obtain⟨v,hv⟩:=cz (xs:=D.less) (i:=b) (by rw[hD.less];exact hb);have jZ:D.less.getD a 0=u:=by rw[SE,hu];rfl
 have uF:D.less.getD b 0=v:=by rw[SE,hv];rfl
 rw[jZ,uF]at hk;have lu:=hD.lV _ (Tf hu);have lv':=hD.lV _ (Tf hv);have b4a:(0<=(a:Int)/\(a:Int)<4)=True:=by simp;omega
 have b4b:(0<=(b:Int)/\(b:Int)<4)=True:=by simp;omega
 have aS:∀(L:List aa),(H++L)[H.length]?=L[0]?:=λL=>aW H L 0;have de:∀(L:List aa),(H++L)[H.length+1]?=L[1]?:=λL=>aW H L 1;have us:=Kn.CK hD (mp:=mp) hu;have BX:=Kn.CK hD (mp:=mp) hv;have e1:∀n:Int,[iv n].drop 0=[iv n]:=λ_=>rfl;refine ai ?_;refine ai ?_;refine ai ?_;refine ak ?_;simp only[seval,F.Lu];refine aD ?_;refine ai ?_;refine eO 15 ?_;simp only[seval,aS,de,b4a,b4b,us,BX];refine iG (bv (u.testBit b)) (cO (ug lu ⟨rfl,rfl⟩)) ?_;refine aK ((ug lv' ?_));(try simp only[seval]);have fin:∀(L:List aa)(n:Int),vM (u.testBit b) (v.testBit a)=n->cw H.length (H++L) (iv n) k:=λL n h=>by rw[h]at hk;exact k_ hH hk
 generalize u.testBit b=s1 at fin⊢;generalize v.testBit a=s2 at fin⊢;cases s1<;>cases s2
 all_goals
  refine ai ?_;refine cJ ?_;refine cJ ?_;refine cJ ?_;refine ai ?_;refine aD ?_
 ·refine aN ?_;refine ai ?_;refine aD ?_;refine bU ?_;refine ai ?_;refine ai ?_;refine bU ?_;refine ai ?_;refine aZ ?_;exact fin _ 2 rfl
 ·refine aN ?_;refine ai ?_;refine aD ?_;refine bU ?_;refine ai ?_;refine ai ?_;refine bU ?_;refine ai ?_;refine aZ ?_;exact fin _ 2 rfl
 ·refine aN ?_;refine ai ?_;refine aD ?_;refine aN ?_;refine bU ?_;refine ai ?_;refine bU ?_;refine ai ?_;refine aZ ?_;exact fin _ 1 rfl
 ·refine bU ?_;refine ai ?_;refine ai ?_;refine ai ?_;refine bU ?_;refine ai ?_;refine aZ ?_;exact fin _ 3 rfl
theorem ahY{D:Kn}{mp s q:Nat}(hD:bF D)(hs:s<3)(hq:q<4)(hk:k (iv (vM ((D.aV.getD s 0).testBit q) (D.aV.getD s 0!=2^q))) H):bc lv SC 60 H [.agg (D.l mp),.c9 97 (.agg [iv s,iv q])] k kp:=by
 refine bH (rs:=[.tmp 4]) (nt:=65) ao_ λhH hA=> ?_;simp only[br,SX];have bR:=Kn.len hD mp;obtain⟨u,hu⟩:=cz (xs:=D.aV) (i:=s) (by rw[hD.aV];exact hs);have jZ:D.aV.getD s 0=u:=by rw[SE,hu];rfl
 rw[jZ]at hk;have lu:=hD.lX _ (Tf hu);have b3:(0<=(s:Int)/\(s:Int)<3)=True:=by simp;omega
 have aS:∀(L:List aa),(H++L)[H.length]?=L[0]?:=λL=>aW H L 0;have de:∀(L:List aa),(H++L)[H.length+1]?=L[1]?:=λL=>aW H L 1;have us:=Kn.C1 hD (mp:=mp) hu;refine ai ?_;refine ai ?_;refine ai ?_;refine ak ?_;simp only[seval,F.Lu];refine aD ?_;refine ak ?_;simp only[seval,F.Sy];refine aD ?_;refine ai ?_;refine eO 18 ?_;simp only[seval,aS,de,b3,us];refine iG (bv (u.testBit q)) (cO (ug lu ⟨rfl,rfl⟩)) ?_;refine iG (wv (2^q)) (cO (uh (m:=0) (by decide) (show q<16 by omega) ⟨by rw[Nat.zero_or],rfl⟩)) ?_;have aC:((u:Int)!=((2^q:Nat):Int))=(u !=2^q):=by
  rw[UI,bne_iff_ne,bne_iff_ne];exact not_congr Z1
 rw[show wv u=AV.val (.int .u16 (u:Int))from rfl,show wv (2^q)=AV.val (.int .u16 ((2^q:Nat):Int))from rfl,NU,aC];have fin:∀(L:List aa)(n:Int),vM (u.testBit q) (u !=2^q)=n->cw H.length (H++L) (iv n) k:=λL n h=>by rw[h]at hk;exact k_ hH hk
 generalize u.testBit q=s1 at fin⊢;generalize(u !=2^q)=s2 at fin⊢;cases s1<;>cases s2
 all_goals
  refine ai ?_;refine cJ ?_;refine cJ ?_;refine cJ ?_;refine ai ?_;refine aD ?_
 ·refine aN ?_;refine ai ?_;refine aD ?_;refine bU ?_;refine ai ?_;refine ai ?_;refine bU ?_;refine ai ?_;refine aZ ?_;exact fin _ 2 rfl
 ·refine aN ?_;refine ai ?_;refine aD ?_;refine bU ?_;refine ai ?_;refine ai ?_;refine bU ?_;refine ai ?_;refine aZ ?_;exact fin _ 2 rfl
 ·refine aN ?_;refine ai ?_;refine aD ?_;refine aN ?_;refine bU ?_;refine ai ?_;refine bU ?_;refine ai ?_;refine aZ ?_;exact fin _ 1 rfl
 ·refine bU ?_;refine ai ?_;refine ai ?_;refine ai ?_;refine bU ?_;refine ai ?_;refine aZ ?_;exact fin _ 3 rfl
theorem an1{x:aj}{q:Nat}(hq:q<x.pieces.length):uT x [(q:Int)]=true:=by
 unfold uT;simp;omega
theorem ahW{x:aj}{s q ir ip is:Nat}(hx:x.Ok)(hs:s<x.aB.length)(hq:q<x.pieces.length)(hr:H[ir]?=some (.cells x.l 26))(h1:H[ip]?=some (.cells [iv q] 3))(h2:H[is]?=some (.cells [iv s] 3))(hk:k (bv true) H):bc lv SC 57 H [.op ir 0,.op ip 0,.op is 0] k kp:=by
 refine bH (rs:=[.tmp 3]) (nt:=18) Tryz.f57 λhH hA=> ?_;simp only[br,SX];have bO:x.l=[iv x.first,iv x.hours,iv x.an,ek x.seen,bi x.pieces,bi x.aB]:=rfl;have bf:x.l.length=6:=rfl;have dZ:Un 6 x.l=x.l:=rfl;have aT:=hx.fi;have aS:∀(L:List aa),(H++L)[H.length]?=L[0]?:=λL=>aW H L 0;have de:∀(L:List aa),(H++L)[H.length+1]?=L[1]?:=λL=>aW H L 1;have am:=an1 hq;have hw:SF.wrap ((x.aB.length:Int)-1)=(x.aB.length:Int)-1:=bI _ (by omega);have cW:(decide ((s:Int)<0)||decide ((s:Int)>(x.aB.length:Int)-1))=false:=by simp;omega
 refine ai ?_;refine ak ?_;simp only[seval,z1,hr,h1,bf,dZ];(try refine⟨by decide,?_⟩);refine aK ((nq (x:=x) (ns:=[(q:Int)]) (e:=.exact) ?_));(try simp only[seval]);refine aK ((Er (x:=x) (ns:=[(q:Int)]) (e:=.exact) hx (by simp) (by rw[de];rfl) (by rw[aS];rfl) ?_));(try simp only[seval,am,fF hr,fF h2,bO,bi,hw]);refine aK ((sI ?_));(try simp only[seval,cW]);refine aZ ?_;exact k_ hH hk
theorem ahH{x:aj}{s q:Nat}(hx:x.Ok)(hs:s<x.aB.length)(hq:q<x.pieces.length)(hm:H[0]?=some .main)(hk:∀D,eB x 2 D->k (.aJ [iv (if D.has then vM ((D.aV.getD s 0).testBit q) (D.aV.getD s 0!=2^q)else 0),iv (dQ D)]) H):bc true SC 28 H [x.av,iv s,iv q] k kp:=by
 refine bH (rs:=[.tmp 6,.tmp 7]) (nt:=27) Tryz.f28 λhH hA=> ?_;simp only[br,SX,aj.av];have hp:=hx.an;obtain⟨p,dY⟩:∃p:Nat,x.an=p:=⟨x.an.toNat,by omega⟩;have aS:∀(L:List aa),(H++L)[H.length]?=L[0]?:=λL=>aW H L 0;have de:∀(L:List aa),(H++L)[H.length+1]?=L[1]?:=λL=>aW H L 1;have ki:∀(L:List aa),(H++L)[H.length+2]?=L[2]?:=λL=>aW H L 2;have bf:x.l.length=6:=rfl;have dZ:Un 6 x.l=x.l:=rfl;refine ai ?_;refine ak ?_;simp only[seval,aS,bf,dZ,Ue,UF,Uf,TS];refine aK ((xe (x:=x) (b:=true) hx dY (fF hm) (λL k kp hk=>cO (ahW hx hs hq (by rw[SD,aS];rfl) (by rw[SD,ki];rfl) (by rw[SD,de];rfl) hk)) (λh=>by cases h) λ_ js D L mp gU gT bS rB hg=> ?_));have eD:eB x 2 D:=⟨p,js,dY,gU,gT,bS⟩;have bR:=Kn.len bS mp;have ep:=tr D mp;obtain⟨Y,hY⟩:∃Y:List aa,Y=[aa.cells x.l 26,.cells [iv s] 3,.cells [iv q] 3]++L:=⟨_,rfl⟩;obtain⟨B,hB⟩:∃B,B=H++Y:=⟨_,rfl⟩;have oX:H++[aa.cells x.l 26,.cells [iv s] 3,.cells [iv q] 3]++L=B:=by rw[hB,hY,SD]
 have mN:∀(L':List aa),(B++L')[B.length+1]?=L'[1]?:=λL'=>aW B L' 1;have hbs:∀(L':List aa),(B++L')[H.length+1]?=some (.cells [iv s] 3):=λL'=>by rw[hB,hY,SD,de];rfl
 have hbq:∀(L':List aa),(B++L')[H.length+2]?=some (.cells [iv q] 3):=λL'=>by rw[hB,hY,SD,ki];rfl
 have aE:=hk D eD;have eK:∀(L':List aa)(n m:Int),k (.aJ [iv n,iv m]) H->cw H.length (B++L') (.aJ [iv n,iv m]) k:=λL' n m h=>by
  rw[hB,SD];exact iJ hH (Wk.refl _) (by simp[iE,eG]) h
 rw[oX];clear oX hg hB;(try simp only[seval,aj.av,bf,bR]);refine⟨kx x,ep,?_⟩;cases hh:D.has with
 |false=>
  have hE:dQ D=11:=by rw[dQ,hh];rfl
  rw[hE,hh]at aE;refine ak ?_;simp only[seval,hE,show ((11:Int)!=0)=true from rfl];refine aD ?_;refine ai ?_;refine aZ ?_;exact eK _ 0 11 aE
 |true=>
  have hE:dQ D=0:=by rw[dQ,hh];rfl
  rw[hE,hh]at aE;refine ak ?_;simp only[seval,hE,show ((0:Int)!=0)=false from rfl];refine aD ?_;refine aN ?_;refine ak ?_;simp only[seval,F.Sy,mN,hbs,hbq,bR];rw[SY (i:=28) (by rw[bR];exact SU _)];refine aK ((ahY (s:=s) (q:=q) bS (by have:=hx.fi;omega) (by have:=hx.cT;omega) ?_));(try simp only[seval]);refine aZ ?_;exact eK _ _ 0 aE
end
theorem z2:gM (SG .i64 0) 2=[iv 0,iv 0]:=rfl
section
variable {H:List aa}{k kp:AV->List aa->Prop}
theorem ahR{x:aj}{a b:Nat}(hx:x.Ok)(ha:a<x.pieces.length)(hb:b<x.pieces.length)(hm:H[0]?=some .main)(h0:a=b->k (.aJ [iv 0,iv 8]) H)(hk:a≠b->∀D,eB x 1 D->k (.aJ [iv (if D.has then vM ((D.less.getD a 0).testBit b) ((D.less.getD b 0).testBit a)else 0),iv (dQ D)]) H):bc true SC 42 H [x.av,iv a,iv b] k kp:=by
 refine bH (rs:=[.tmp 6,.tmp 7]) (nt:=42) Tryz.f42 λhH hA=> ?_;simp only[br,SX,aj.av];have hp:=hx.an;have lq:=hx.cT;obtain⟨p,dY⟩:∃p:Nat,x.an=p:=⟨x.an.toNat,by omega⟩;have aS:∀(L:List aa),(H++L)[H.length]?=L[0]?:=λL=>aW H L 0;have de:∀(L:List aa),(H++L)[H.length+1]?=L[1]?:=λL=>aW H L 1;have ki:∀(L:List aa),(H++L)[H.length+2]?=L[2]?:=λL=>aW H L 2;have bf:x.l.length=6:=rfl;have dZ:Un 6 x.l=x.l:=rfl;have am:uT x [(a:Int),(b:Int)]=true:=by unfold uT;simp;omega
 refine ai ?_;refine ak ?_;simp only[seval,aS,bf,dZ];refine aK ((Eo (x:=x) hx ?_));(try simp only[seval]);refine ak ?_;simp only[seval,show ((0:Int)!=0)=false from rfl];refine aD ?_;refine aN ?_;refine ak ?_;simp only[seval,aS,bf,dZ,z2];(try refine⟨by decide,?_⟩);refine aK ((nq (x:=x) (ns:=[(a:Int),(b:Int)]) (e:=.exact) ?_));(try simp only[seval]);refine aK ((Er (x:=x) (ns:=[(a:Int),(b:Int)]) (e:=.exact) (il:=H.length+2) (ir:=H.length+1) hx (by simp) (by rw[ki];rfl) (by rw[de];rfl) ?_));(try simp only[seval,am]);refine aD ?_;refine aN ?_;by_cases dl:a=b
 ·have h1:((a:Int)==(b:Int))=true:=by rw[dl];simp
  refine ak ?_;simp only[seval,h1];refine aD ?_;refine ai ?_;refine aZ ?_;exact iJ hH (Wk.refl _) (by simp[iE,eG]) (h0 dl)
 ·have h1:((a:Int)==(b:Int))=false:=by rw[beq_eq_false_iff_ne];exactλe=>dl (Z1.1 e)
  refine ak ?_;simp only[seval,h1];refine aD ?_;refine aN ?_;refine ak ?_;simp only[seval,aS,bf,dZ];refine aK ((xe (x:=x) hx dY (fF hm) D4 (λh=>by cases h) λ_ js D L mp gU gT bS rB hg=> ?_));have eD:eB x 1 D:=⟨p,js,dY,gU,gT,bS⟩;have bR:=Kn.len bS mp;have ep:=tr D mp;have aE:=hk dl D eD;obtain⟨Y,hY⟩:∃Y:List aa,Y=[aa.cells x.l 26,.cells x.l 26,.cells [.sl 2 [iv a,iv b] .exact] 22]++L:=⟨_,rfl⟩;obtain⟨B,hB⟩:∃B,B=H++Y:=⟨_,rfl⟩;have oX:H++[aa.cells x.l 26,.cells x.l 26,.cells [.sl 2 [iv a,iv b] .exact] 22]++L=B:=by rw[hB,hY,SD]
  have mN:∀(L':List aa),(B++L')[B.length+1]?=L'[1]?:=λL'=>aW B L' 1;have eK:∀(L':List aa)(n m:Int),k (.aJ [iv n,iv m]) H->cw H.length (B++L') (.aJ [iv n,iv m]) k:=λL' n m h=>by
   rw[hB,SD];exact iJ hH (Wk.refl _) (by simp[iE,eG]) h
  rw[oX];clear oX hg hB;(try simp only[seval,aj.av,bf,bR]);refine⟨kx x,ep,?_⟩;cases hh:D.has with
  |false=>
   have hE:dQ D=11:=(by rw[dQ,hh];rfl);rw[hE,hh]at aE;refine ak ?_;simp only[seval,hE,show ((11:Int)!=0)=true from rfl];refine aD ?_;refine ai ?_;refine aZ ?_;exact eK _ 0 11 aE
  |true=>
   have hE:dQ D=0:=(by rw[dQ,hh];rfl);rw[hE,hh]at aE;refine ak ?_;simp only[seval,hE,show ((0:Int)!=0)=false from rfl];refine aD ?_;refine aN ?_;refine ak ?_;simp only[seval,F.Lu,mN,bR];rw[SY (i:=28) (by rw[bR];exact SU _)];refine aK ((ahX (a:=a) (b:=b) bS (by omega) (by omega) ?_));(try simp only[seval]);refine aZ ?_;exact eK _ _ 0 aE
end
namespace Tk
structure ie where
 lo:Int
 hi:Int
 is:Bool
def ie.add (b:ie)(v:Int):ie:=if b.is then⟨min b.lo v,max b.hi v,true⟩else⟨v,v,true⟩
end Tk
def Tk.ie.l (b:ie):List AV:=[iv b.lo,iv b.hi,bv b.is]
section
variable {lv:Bool}{H:List aa}{k kp:AV->List aa->Prop}
theorem ah3{b:ie}{v:Int}{i:Nat}(hi:H[i]?=some (.cells b.l 112))(hk:k (.aJ []) (H.set i (.cells (b.add v).l 112))):bc lv SC 74 H [.op i 0,iv v] k kp:=by
 refine bH (rs:=[]) (nt:=38) Tryz.f74 λhH hA=> ?_;simp only[br,SX];have bG:=eX hi;obtain⟨hp,ff⟩:∃hp:List AV->List aa,∀l,hp l=H.set i (.cells l 112):=⟨_,λ_=>rfl⟩;have h0:H=hp b.l:=by rw[ff];exact(qC hi).symm
 have hg:∀l,(hp l)[i]?=some (.cells l 112):=λl=>by rw[ff,UT,if_pos rfl,if_pos bG]
 have hs:∀l l',(hp l).set i (.cells l' 112)=hp l':=λl l'=>by rw[ff,ff,W9]
 have fin:∀(N:Nat)(l:List AV),l=(b.add v).l->cw N (hp l) (.aJ []) k:=λN l e=>by
  rw[e,ff];exact cm hk
 rw[h0];clear hH hA ff h0 hi hk;refine ak ?_;simp only[seval,hg,ie.l];refine aD ?_;refine⟨λh=> ?_,λh=> ?_⟩
 ·have hb:b.is=false:=by simpa using h
  refine ak ?_;simp(maxSteps:=4000000) only[seval,hg,hs];refine qU [16,19] [0,1,2,3,4,5,6,7,8,9,10,11,12,13,14,15,16,17,18,19] [⟨0,false,[],[]⟩,⟨1,false,[],[([16],[16])]⟩,⟨2,false,[],[]⟩,⟨3,false,[],[]⟩,⟨4,false,[],[]⟩,⟨5,false,[],[]⟩,⟨6,false,[],[]⟩,⟨7,false,[],[]⟩,⟨8,false,[],[]⟩,⟨9,false,[],[]⟩,⟨10,false,[],[]⟩,⟨11,false,[],[]⟩,⟨12,false,[],[([16],[16])]⟩,⟨13,false,[],[([16],[16])]⟩,⟨14,false,[],[]⟩,⟨15,false,[],[]⟩,⟨16,true,[16],[]⟩,⟨17,false,[16],[]⟩,⟨18,false,[16],[]⟩,⟨19,true,[16,19],[]⟩] (λD=>bif isDone 19 D then hp [iv (min v v),iv (max v v),bv true]else bif isDone 16 D then hp [iv (min v v),iv v,bv true]else hp [iv v,iv v,bv true]) ?_;simp only[seval,hg,hs];have m1:(if v<v then v else v)=v:=by split<;>rfl
  have m2:min v v=v:=by omega
  have m3:max v v=v:=by omega
  rw[m1,m2,m3];exact⟨rfl,rfl,fin _ _ (by rw[ie.add,if_neg (by rw[hb];decide)];rfl)⟩
 ·have hb:b.is=true:=by simpa using h
  refine aN ?_;refine qU [16,19] [0,1,2,3,4,5,6,7,8,9,10,11,12,13,14,15,16,17,18,19] [⟨0,false,[],[]⟩,⟨1,false,[],[([16],[16])]⟩,⟨2,false,[],[]⟩,⟨3,false,[],[]⟩,⟨4,false,[],[]⟩,⟨5,false,[],[]⟩,⟨6,false,[],[]⟩,⟨7,false,[],[]⟩,⟨8,false,[],[]⟩,⟨9,false,[],[]⟩,⟨10,false,[],[]⟩,⟨11,false,[],[]⟩,⟨12,false,[],[([16],[16])]⟩,⟨13,false,[],[([16],[16])]⟩,⟨14,false,[],[]⟩,⟨15,false,[],[]⟩,⟨16,true,[16],[]⟩,⟨17,false,[16],[]⟩,⟨18,false,[16],[]⟩,⟨19,true,[16,19],[]⟩] (λD=>bif isDone 19 D then hp [iv (min b.lo v),iv (max b.hi v),bv b.is]else bif isDone 16 D then hp [iv (min b.lo v),iv b.hi,bv b.is]else hp [iv b.lo,iv b.hi,bv b.is]) ?_;simp only[seval,hg,hs];have m1:(if v<b.lo then v else b.lo)=min b.lo v:=by split<;>omega
  have m2:(if b.hi<v then v else b.hi)=max b.hi v:=by split<;>omega
  rw[m1,m2];exact⟨rfl,rfl,fin _ _ (by rw[ie.add,if_pos hb,hb];rfl)⟩
end
end Go.Gg
