/- A part of the proof. -/
import Derived.Test.YtkanpclgnhdbiaaGreatDoorTicketGreaterCard2
import Derived.Conc.CrowdStepC
import Derived.Conc.LeavingOf
import Derived.Conc.AtomicLaws
import Derived.Conc.AtomicLaws2
import Derived.Conc.MarkLaws
import Derived.Conc.SmallLaws
import Derived.Laws.LoneSync
import Derived.KernelRfl
import Derived.Test.YtkanpclgnhdbiaaGreatDoorProg
import Derived.Conc.TokenWalk
set_option linter.all false
set_option maxRecDepth 4000
set_option maxHeartbeats 4000000
open Array renaming all_eq_true_iff_forall_mem->UM,append_assoc->Xv,empty_append->Xu,ext'->VG,getD_eq_getD_getElem?->SH,getElem?_eq_getElem->SJ,getElem?_eq_some_iff->SR,getElem?_push->Xl,getElem?_setIfInBounds->Wt,getElem?_setIfInBounds_ne->SV,getElem?_setIfInBounds_self_of_lt->Tb,getElem_mem->XX,isEmpty_empty->Y3,mem_iff_getElem?->YK,replicate->TN,size->ad'
open BitVec renaming ofInt->Ui
open Bool renaming and_eq_true->Tl,eq_iff_iff->U3,false_or->Zy,not_eq_true'->T1,not_false->YI,not_true->as_,true_or->ah'
open Classical renaming byContradiction->Tn
open Eq renaming trans->VM
open Function renaming comp_def->YB
open Go renaming Addr->U_,CallKind->Xi,Code->T7,Deferred->U2,Event->Ut,Frame->Uc,FrameMode->Vf,Func->YH,FuncId->TQ,GStep->ZG,Goroutine->SG,IntKind->TZ,Item->WZ,Machine->ar_,MemOp->Wj,Oper->Tu,Operand->Tj,Program->SI,ResultVar->UQ,Trace->Uo,Value->SP,World->Tp,mark->af',step->af_
open Go.Conc renaming Deaf->UY,Deaf_other->au2,Good->W4,Knows->Wr,QuitsD->Y9,act?_of->ah_,casT_eq->Z5,crowd_pick->ZZ,deaf_succ->ac',finishComm_recv->YA,finishComm_send->ag',getElem?_stand->Yc,heard_old->Wv,knows_own->Zg,lt_size_of_getElem?->TK,mem_ofEvents->TO,mem_of_getElem?->XW,offersAt_of_not_blocked->U1,offersAt_parked_send->ZI,offersAt_ph->Zp,runT_crowd_spawn->ac_,seen_none->ab',served->T8,stepG_entry->ZH,stepG_same->Xh,stepG_value->au1,touch_of->U0,woken_run->Yo
open Go.Conc.QuitsD renaming status->ZJ
open Go.ConcN renaming le_sumTo->WH,sumTo_congr->Vq
open Go.Event renaming mute->WK
open Go.Extern.Atomic renaming casT->W1,loadT->X5,storeT->XV,update->XU
open Go.Extern.Race renaming marked->VK,none_->Xa
open Go.Extern.Sync renaming semacquire->WJ,semrelease->XT
open Go.GStep renaming after->T6
open Go.Goroutine.mk renaming injEq->ag_
open Go.Instr renaming loadAt->XF,sureAddr->Vh
open Go.IntKind renaming i64->SD,u32->ak_,u64->TA,wrap->Xg
open Go.MemAct renaming ofEvent->Ts
open Go.MemOp renaming ofEvents->Tc
open Go.Obj renaming deferred->au_
open Go.Op renaming intArith->au9
open Go.Operand renaming const->au8,tmp->auW
open Go.Proofs.Tryz renaming f77->XQ,prog->SA
open Go.Region renaming wanted->Ti
open Go.Result renaming ok->Yk
open Go.Sem renaming runT_eq->TB
open Go.Trace renaming g?->WF
open Go.Value renaming bool->Xf,chan->XS,int->SF
open Go.World renaming cell?->UA,frozen?->ZU,setChan->Wm
open Int renaming toNat_natCast->VR
open List renaming any_cons->YV,any_eq_true->Ur,append_assoc->SC,append_nil->SN,cons_append->Vm,drop->TH,drop_eq_nil_of_le->TY,eq_nil_of_length_eq_zero->UF,ext_getElem?->Yr,findIdx?_eq_none_iff->Yh,findIdx?_eq_some_iff_getElem->Xx,flatMap_append->VE,foldl_append->ZS,foldl_cons->U4,forall_mem_cons->Xk,getD_eq_getElem?_getD->SE,getElem?_append_left->SX,getElem?_append_right->Ta,getElem?_drop->Up,getElem?_eq_getElem->SW,getElem?_eq_none->Ux,getElem?_eq_some_iff->SL,getElem?_map->To,getElem?_range->XC,getElem?_set->UU,getElem?_set_ne->Ua,getElem?_toArray->Vl,getElem_mem->Wz,getLast?_eq_some_getLast->XR,getLastD_eq_getLast?->UR,getLast_mem->Zs,head?_append->WU,length_append->S5,length_cons->Un,length_map->S9,length_nil->UW,length_pos_iff->Vy,length_singleton->T_,mapM_cons->Ub,mapM_nil->UE,mapM_toArray->X2,map_append->TG,map_cons->UP,mem_append->SQ,mem_append_left->Th,mem_append_right->S4,mem_cons->SK,mem_flatMap->S6,mem_iff_getElem?->UV,mem_map->Te,mem_of_getElem?->S_,mem_range->Tx,mem_replicate->XB,mem_singleton->S8,mem_toArray->TM,nil_append->UL,nodup_append->Vb,nodup_nil->WS,nodup_range->XZ,not_mem_nil->SZ,range->SU,range_succ->Vp,replicate->TJ,set_append_left->UX,set_cons_succ->UJ,set_cons_zero->T4,set_set->Xb,take->TS,take_add_one->UZ,take_append_of_le_length->Tw,take_length->TD,take_of_length_le->SS,take_succ_eq_append_getElem->XN
open List.cons renaming inj->VB
open Nat renaming add_sub_cancel_left->TU,add_zero->UI,eq_zero_or_pos->Ul,le_refl->SO,le_trans->UH,lt_of_lt_of_le->Tf,lt_succ_self->Uy,reduceAdd->SY,reduceEqDiff->ZA
open Option renaming bind_eq_bind->TR,bind_eq_some_iff->Tg,getD_none->Vr,getD_some->S0,map_eq_some_iff->Tq,map_some->UT,pure_def->Uj
open Option.some renaming inj->V_,injEq->Tm
open Prod.mk renaming inj->W5,injEq->U7
namespace Go.Gg
open Go.Conc Go.ConcN
section
variable {P:SI}{n0:Nat}{W0:Tp}{V:View}{gs gs':Array SG}{w w':Tp}{sl:Option (Nat×Nat)}{t:Uo}{K:Nat->GS}{Im:cx}{ic:Nat}{p:Phase}{st st':Option ej}
theorem PR{t:Uo}{g i j:Nat}(hi:t.g? i=some g)(hj:t.g? j=some g)(h:i<=j):Before t i j:=by
 rcases Nat.eq_or_lt_of_le h with rfl|h
 ·exact .inl rfl
 ·obtain⟨a,ha,rfl⟩:=Tq.1 hi;obtain⟨b,hb,hg⟩:=Tq.1 hj;exact .inr (.single (.inl ⟨h,by simp[WF,ha,hb,hg]⟩))
theorem Inv.afv(h:Inv P n0 W0 V gs w t K Im ic (some p) st)(aH:p.recv=true){n:Nat}{gi:SG}(aM:gs[ic]?=some gi)(hK:K ic=.acq n)(jH:uh P Im p.c p.Wg (UY t ic) gi):gD P n0 W0 V gs w sl t K Im ic (some p) st ic:=by
 obtain⟨s,hs,gw,iU,hm⟩:=h.mode aH;obtain⟨m1,m2,m3,m4,m5⟩:=hm.Pv (.inr (by rw[hK];rfl));obtain⟨hd,bK,g',aR,n',cw⟩:=jH;have nD:∀e∈#[j6 (.acquire (dW p.Wg))],e=j6 (.acquire (dW p.Wg)):=λe he=>by simpa using he
 have aaS:g'.status=.running:=cU.running (λd g x=>x.2.1) cw;refine h.ub aH (k':=.look n') (s':=.got) gw aM (aR w) (by rw[hd];exact cw) (by rw[hK];exact Hp Im) (λ_=>rfl) rfl (λj hj=>by rw[hK]at hj;cases hj) (.inl rfl) (λe he x hx=> ?_) (λe he=> ?_) (λe he a=> ?_) rfl (λ_ _ _=>rfl) rfl rfl rfl
  ?_ (.inl m1) ?_ (yY iU (by rw[hK];exact .inl (by simp[GS.db])))
 ·rw[nD e he]at hx;cases hx
 ·rw[nD e he];exact h.low.2
 ·rw[nD e he];simp[j6,Ts]
 ·unfold Mode;have e1:sumTo gs.size (λi=>(upd K ic (.look n') i).cnt)=0:=by rw[lr K (.look n') GS.cnt (by rw[hK];rfl)];exact m4
  have e2:sumTo gs.size (λi=>(upd K ic (.look n') i).late)=0:=by rw[lr K (.look n') GS.late (by rw[hK];rfl)];exact m3
  simp only[e1,e2,bz];exact .inr (.inr (.inr (.inr (.inr (.inl ⟨m1,trivial,trivial,trivial,.inl rfl⟩)))))
 ·have hr:Rest p.Wg t K ic st:=h.out.2.2.1;rw[hs,m2]at hr;rw[ofEvents_one];refine hr.app (λidx a ha hx=> .inr ?_) (λidx a _ ⟨op,ay,_,hx⟩ _=> ?_)
  ·obtain⟨i,Lw,eO,hx⟩:=hx;have alw:=h.core.ti.norel;have own:t.g? idx=some ic->Wr (t++#[{g:=ic,fn:=gi.frame.fn,pos:=gi.frame.place,act:=.ofEvent (j6 (.acquire (dW p.Wg)))}]) ic idx:=λe=>by
    obtain⟨op,ho,pC⟩:=Tq.1 e;rw[<- pC];exact(Zg ho).app _
   rcases hx with hx|rfl|⟨r,rS,hle⟩
   ·exfalso;have alh:i<gs.size:=by
     obtain⟨op,ho,pC⟩:=Tq.1 Lw;rw[<- pC];exact h.core.ti.gs op (XW ho)
    have gY:(K i).cnt=1:=by cases kW:K i<;>rw[kW]at hx<;>first|rfl|cases hx
    have hle:(K i).cnt<=sumTo gs.size λi=>(K i).cnt:=WH (f:=λi=>(K i).cnt) alh;omega
   ·exact own Lw
   ·exact afw rS.act rS.heard alw ⟨rfl,rfl⟩ hd (PR Lw rS.g hle)
  ·simp only[TM,SK,SZ,or_false]at ay;subst ay;cases hx
theorem Rest.got{Wg:Nat}(hr:Rest Wg t K ic (some .got)){es:Array Ut}{fn:TQ}{pos:String}{K':Nat->GS}:Rest Wg (t++Tc ic fn pos es) K' ic (some .got):=by
 refine hr.app (λidx a ha hx=> .inr (Knows.app _ hx)) (λidx a _ ⟨op,ay,c_,_⟩ _=> .inr (.inr ?_));obtain⟨e,_,rfl⟩:=TO ay;exact Zg c_
theorem Inv.anH(h:Inv P n0 W0 V gs w t K Im ic (some p) st)(aH:p.recv=true){n:Nat}{gi:SG}(aM:gs[ic]?=some gi)(hK:K ic=.look n)(jH:IQ P Im p.c (UY t ic) gi):gD P n0 W0 V gs w sl t K Im ic (some p) st ic:=by
 obtain⟨s,hs,gw,iU,hm⟩:=h.mode aH;obtain⟨m1,m2,m3,m4⟩:=hm.Pw (.inl (by rw[hK];rfl));obtain⟨hd,bK,b,o,x,g',lH,aR,n',cw⟩:=jH;have fw:Sat ((K ic).view Im) w:=by have:=h.core.sat ic iU;rwa [show bF V Im K ic=(K ic).view Im by simp[bF];omega]at this
 have K8:=fw.ab b o x (by rw[hK];exact lH);have hb:=fw.DX (show ((K ic).view Im).ab b o=some x by rw[hK];exact lH);have nD:∀e∈(#[⟨.cell ⟨b,o,none⟩,false,false⟩]:Array Ut),e=⟨.cell ⟨b,o,none⟩,false,false⟩:=λe he=>by simpa using he
 have cN:=h.blind gw;refine h.ub aH (k':=.close n') (s':=.got) gw aM (aR w K8) (by rw[hd];exact cw) (by rw[hK];exact anr Im) (λ_=>rfl) rfl (λj hj=>by rw[hK]at hj;cases hj) (.inl rfl) (λe he y hy=> .inr (.inr ?_)) (λe he=> ?_) (λe he a=> ?_) rfl (λ_ _ _=>rfl) rfl rfl rfl
  ?_ (.inl m1) ?_ (yY iU (by rw[hK];exact .inl (by simp[GS.db])))
 ·rw[nD e he]at hy;cases hy;refine⟨λdS=> ?_,.inr (by rw[hK];show Im b o≠none;rw[lH];simp),rfl⟩;have e1:b=p.Wg:=dS;have:=cN.2.2.2 o;rw[hK]at this;have e2:Im p.Wg o=none:=this;rw[<- e1,lH]at e2;cases e2
 ·rw[nD e he];exact hb
 ·rw[nD e he];simp[Ts]
 ·unfold Mode;have e1:sumTo gs.size (λi=>(upd K ic (.close n') i).cnt)=0:=by rw[lr K (.close n') GS.cnt (by rw[hK];rfl)];exact m4
  have e2:sumTo gs.size (λi=>(upd K ic (.close n') i).late)=0:=by rw[lr K (.close n') GS.late (by rw[hK];rfl)];exact m3
  simp only[e1,e2,bz];exact .inr (.inr (.inr (.inr (.inr (.inl ⟨m1,trivial,trivial,trivial,.inr rfl⟩)))))
 ·have hr:Rest p.Wg t K ic st:=h.out.2.2.1;rw[hs,m2]at hr;exact hr.got
theorem Inv.ahf(h:Inv P n0 W0 V gs w t K Im ic (some p) st)(aH:p.recv=true){n:Nat}{gi:SG}(aM:gs[ic]?=some gi)(hK:K ic=.close n)(jH:IN P p.c (UY t ic) gi):gD P n0 W0 V gs w sl t K Im ic (some p) st ic:=by
 obtain⟨s,hs,gw,iU,hm⟩:=h.mode aH;obtain⟨⟨nn,m1⟩,m2,m3,m4⟩:=hm.Pw (.inr (by rw[hK];rfl));obtain⟨hd,bK,LW,g',aR,q,iH⟩:=jH;have lM:=aR w nn m1;have fF:∀e∈(#[⟨.obj p.c,false,true⟩,⟨.obj p.c,true,true⟩]:Array Ut),e=⟨.obj p.c,false,true⟩\/e=⟨.obj p.c,true,true⟩:=λe he=>by simpa using he
 have LZ:∀j,0<j->j<gs.size->j≠ic->(K j).idx=none:=λj _ hj _=>by
  have hle:(K j).cnt<=sumTo gs.size λi=>(K i).cnt:=WH (f:=λi=>(K i).cnt) hj;exact GS.aa7 (by omega)
 have Ly:g'.status=.running\/g'.status=.finished:=ZJ iH;have rF:p.c≠p.Wg:=h.phase.2.2.1;have K9:=h.low.1;have eu:Tc ic gi.frame.fn gi.frame.place #[⟨.obj p.c,false,true⟩,⟨.obj p.c,true,true⟩]=#[{g:=ic,fn:=gi.frame.fn,pos:=gi.frame.place,act:=.ofEvent ⟨.obj p.c,false,true⟩},{g:=ic,fn:=gi.frame.fn,pos:=gi.frame.place,act:=.close p.c}]:=by simp[Tc,Ts]
 have g1:=ru (t:=t) (show (#[({g:=ic,fn:=gi.frame.fn,pos:=gi.frame.place,act:=.ofEvent ⟨.obj p.c,false,true⟩}:Wj),{g:=ic,fn:=gi.frame.fn,pos:=gi.frame.place,act:=.close p.c}]:Uo)[1]?=some _ from rfl);have nJ:∀op∈(#[({g:=ic,fn:=gi.frame.fn,pos:=gi.frame.place,act:=.ofEvent ⟨.obj p.c,false,true⟩}:Wj),{g:=ic,fn:=gi.frame.fn,pos:=gi.frame.place,act:=.close p.c}]:Uo),still op.act:=by
  intro op ay;simp only[TM,SK,SZ,or_false]at ay;rcases ay with rfl|rfl<;>exact⟨by simp[Ts],by simp[Ts]⟩
 have Sw:∃n,({w with heap:=w.heap.setIfInBounds p.c (.chan 0 #[] true nn nn false)}:Tp).heap[p.c]?=some (.chan 0 #[] true n n false):=⟨nn,by simp[K9]⟩;refine h.ub aH (k':=.gone q) (s':=.shut (t.size+1)) gw aM lM (by rw[hd];exact iH) (by rw[hK];exact Hq _) (λ_=>rfl) rfl (λj hj=>by rw[hK]at hj;cases hj) (.inl rfl) (λe he x hx=> .inl ?_) (λe he=> ?_) (λe he a=> ?_) (by simp) (λb hb _=>by simp[Wt,Ne.symm hb]) rfl rfl rfl
  ?_ (.inr ⟨LZ,λg hg=>aoX gw hg LW Ly Sw⟩) ?_ (yY iU (by rw[hK];exact .inl (by simp[GS.db])))
 ·rcases fF e he with rfl|rfl
  ·cases hx;exact⟨rfl,rfl⟩
  ·cases hx
 ·rcases fF e he with rfl|rfl
  ·exact K9
  ·exact K9
 ·rcases fF e he with rfl|rfl<;>simp[Ts]
 ·unfold Mode;have e1:sumTo gs.size (λi=>(upd K ic (.gone q) i).cnt)=0:=by rw[lr K (.gone q) GS.cnt (by rw[hK];rfl)];exact m4
  have e2:sumTo gs.size (λi=>(upd K ic (.gone q) i).late)=0:=by rw[lr K (.gone q) GS.late (by rw[hK];rfl)];exact m3
  simp only[e1,e2,bz];obtain⟨n,hn⟩:=Sw;refine .inr (.inr (.inr (.inr (.inr (.inr ⟨⟨t.size+1,n,rfl,?_,?_,hn⟩,trivial,trivial,rfl⟩)))))
  ·rw[eu];exact ah_ g1
  ·rw[eu];exact heard_new (k:=1) rfl rfl (by rw[ux nJ (by simp)];exact hd)
 ·have hr:Rest p.Wg t K ic st:=h.out.2.2.1;rw[hs,m2]at hr;rw[eu];refine hr.app (λidx a ha hx=> .inr (.inr (Knows.hb_new hx (by omega) g1 rfl))) (λidx a hi ⟨op,ay,c_,_⟩ _=> .inr (.inr ?_));have hlt:idx<t.size+2:=by have:=TK c_;simpa using this
  have pC:op.g=ic:=by
   simp only[TM,SK,SZ,or_false]at ay;rcases ay with rfl|rfl<;>rfl
  exact PR (g:=ic) (by simp[WF,c_,pC]) (by simp[WF,g1]) (by omega)
structure Fg (P:SI)(n0:Nat)(W0:Tp)(V:View)(gs:Array SG)(w:Tp)(sl:Option (Nat×Nat))(t:Uo)(Im:cx)(ic:Nat)(p:Phase)(st:Option ej)(g:SG)(i:Nat):Prop where
 intro::
 met:∃gs' w' ops K' j sp S v kQ Ow,runT P (crowd gs w sl) i=(.next (crowd gs' w' sl),ops)/\gs'.size=gs.size/\kB gs' (T8 g (.tuple #[v,.bool true]))/\p.Ss[j]?=some (sp::S)/\sp v kQ Ow/\(∀b,V.own b≠none->Ow b=none)/\(∀b o,V.own b≠none->kQ b o≠none->V.ab b o≠none)/\
  (∃w,Sat V w/\(∀b o x,kQ b o=some x->w.cell? ⟨b,o,none⟩=some x)/\∀b x,Ow b=some x->w.heap[b]?=some x)/\
  Inv P n0 W0 (nO V kQ Ow (.recv p.c p.Wg (p.Ss.set j S))) gs' w' (t++ops) K' Im ic (some {p with Ss:=p.Ss.set j S}) st
theorem Inv.aq6(h:Inv P n0 W0 V gs w t K Im ic (some p) st)(aH:p.recv=true)(gI:V.deaf=0){g:SG}(hm:nZ gs g p.c){i j:Nat}{gi:SG}{hh h':Ht}{Vi V₁:View}{c Wg:Nat}{sp:Spec}{S:List Spec}{v z:SP}{B:Nat->Bool}(hi:0<i)(aM:gs[i]?=some gi)
  (hK:K i=.work j hh Vi) (hg:dU Vi V₁) (hr:V₁.role=.work c Wg (sp::S)) (hd:V₁.deaf=0) (aR:stepG P false gi w=.comm gi #[scase c v z] true .send w #[])
  (yH:sp v V₁.ab (lU B V₁)) (hk:lA P h' (lR B V₁ (.work c Wg S)) (T8 gi undef)):Fg P n0 W0 V gs w sl t Im ic p st g i:=by
 have hlt:i<gs.size:=(SR.1 aM).1;have dl:=h.is i gi hi aM;simp only[hK,GS.is]at dl;obtain⟨bA,_,S',hS,jl⟩:=dl;rw[hg.role,jl]at hr;cases hr;have gY:(K i).cnt=1:=by rw[hK];rfl
 obtain⟨⟨n,gL⟩,lg⟩:=h.counted hi hlt gY;have eO:(i==0)=false:=by simp;omega
 obtain⟨g0,z0,h0,kZ,iS,mK⟩:=hm;have hp:partners (gs.setIfInBounds i ph) p.c false=[(0,0)]:=by
  have F2:(gs.setIfInBounds i ph)[0]?=some (parked g0 #[rcase p.c z0] (.recv true)):=by rw[SV (by omega)];exact h0
  rw[partners_one F2 (λm x hm hx=> ?_),offersAt_parked_recv]
  ·simp
  ·rcases Yc gs i m x hx with⟨_,rfl⟩|⟨_,jI⟩
   ·exact Zp _ _
   ·exact aci (h.is m x (by omega) jI) _
 have bK:=crowd_send_meets (P:=P) (sl:=sl) (i:=i) aM (by rw[eO];exact aR) gL (by omega) h0 hp;rw[YA,ag']at bK;have mh:(K i).view Im=Vi:=by rw[hK];rfl
 have aV:((gs.setIfInBounds 0 (T8 g0 (recvd true v true))).setIfInBounds i (T8 gi undef)).size=gs.size:=by simp
 have aX:UY t i=0:=by rw[bA,<- hg.deaf,hd]
 have DE:Sat V₁ w:=by
  have:=h.core.sat i hlt;rw[show bF V Im K i=(K i).view Im by simp[bF];omega,mh]at this;exact hg.sat w this
 have Ml:Sat V w:=by have:=h.core.sat 0 h.pos;rwa [show bF V Im K 0=V by simp[bF]]at this
 have uU:=h.met (gs':=(gs.setIfInBounds 0 (T8 g0 (recvd true v true))).setIfInBounds i (T8 gi undef)) (w':=w.setChan p.c 0 #[] false (n+1) (n+1) false) (gi:=gi) (h':=h') (V₁:=V₁) (S:=S) (sp:=sp) (B:=B) aH gI hi hlt (by rw[hK];rfl) (by rw[mh];exact hg) (by rw[hg.role,jl]) hd aX hS hk aV
  (by rw[Tb (by simpa using hlt)]) (λm hm iV=>by rw[SV (Ne.symm hm),SV (by omega)])
  (u:=Tc i gi.frame.fn gi.frame.place #[]++#[{g:=i,fn:=gi.frame.fn,pos:=gi.frame.place,act:=.send p.c n},{g:=0,fn:=g0.frame.fn,pos:=g0.frame.place,act:=.recv p.c n 0},
    {g:=i,fn:=gi.frame.fn,pos:=gi.frame.place,act:=.sendDone p.c n},{g:=0,fn:=g0.frame.fn,pos:=g0.frame.place,act:=.recvDone p.c n}]) (s:=n) (by simp only[Tc,Y3,if_true,Xu];rfl) ⟨rfl,rfl⟩ ⟨rfl,rfl⟩ ⟨rfl,rfl⟩ ⟨rfl,rfl⟩
  (by simp[Wm]) (λb hb=>by simp[Wm,Wt,Ne.symm hb]) ⟨n+1,by simp[Wm,h.low.1]⟩ rfl rfl rfl
 refine⟨_,_,_,_,j,sp,S,v,V₁.ab,lU B V₁,bK,aV,⟨T8 g0 (recvd true v true),?_,rfl,?_,iS,mK⟩,hS,yH,uU.1,uU.2.1,⟨w,Ml,DE.ab,λb x e=> ?_⟩,uU.2.2⟩
 ·rw[SV (by omega),Tb h.pos]
 ·simp only[T8,kZ];rfl
 ·unfold lU at e;split at e
  ·exact DE.own b x e
  ·cases e
theorem Inv.aqe(h:Inv P n0 W0 V gs w t K Im ic (some p) st)(aH:p.recv=true)(gI:V.deaf=0){g:SG}{z:SP}(hm:kB gs g)(aR:stepG P true g w=.comm g #[rcase p.c z] true (.recv true) w #[])
  (hw:∃i j h' V₁ V₂ g1 v z1,0<i/\i<gs.size/\K i=.nT j h' V₁ V₂ g1 v z1):Fg P n0 W0 V gs w sl t Im ic p st g 0:=by
 obtain⟨g0,h0,hf0,kZ,iS,mK⟩:=hm;have lg:stepG P (0==0) g0 w=.comm g #[rcase p.c z] true (.recv true) w #[]:=by rw[<- aR];exact Xh kZ iS mK w
 obtain⟨i0,j0,a0,a1,a2,a3,a4,a5,b0,b1,b2⟩:=hw;have akM:(K i0).cnt=1:=by rw[b2];rfl
 obtain⟨⟨n,gL⟩,GW⟩:=h.counted b0 b1 akM;have pI:gs[i0]?=some gs[i0]:=SJ b1;have fD:∀j k,(j,k)∈partners (gs.setIfInBounds 0 ph) p.c true->k=0/\j≠0/\∃gj vj zj Oj,gs[j]?=some (parked gj #[scase p.c vj zj] Oj):=by
  intro j k hjk;obtain⟨x,hx,hk⟩:=mem_partners.1 hjk;rcases Yc gs 0 j x hx with⟨_,rfl⟩|⟨uQ,jI⟩
  ·rw[Zp]at hk;cases hk
  ·rcases GS.runs (h.is j x (by omega) jI)with hr|⟨hf,_⟩|⟨q,h',V1,V2,g1,v,z1,e⟩|⟨_,hb,ho⟩
   ·rw[U1 (by rw[hr];simp)]at hk;cases hk
   ·rw[U1 (by rw[hf];simp)]at hk;cases hk
   ·have:=h.is j x (by omega) jI;simp only[e,GS.is]at this;obtain⟨_,_,rfl,_⟩:=this;rw[ZI]at hk;simp at hk;exact⟨hk,uQ,g1,v,z1,.send,jI⟩
   ·have:offersAt x p.c true=[]:=(by unfold offersAt;simp[hb,ho]);rw[this]at hk;cases hk
 have aF:partners (gs.setIfInBounds 0 ph) p.c true≠[]:=by
  intro e;have fF:(i0,0)∈partners (gs.setIfInBounds 0 ph) p.c true:=by
   have:=h.is i0 _ b0 pI;simp only[b2,GS.is]at this;obtain⟨_,_,jk,_⟩:=this;refine mem_partners.2 ⟨gs[i0],by rw[SV (by omega)];exact pI,?_⟩;rw[jk,ZI];simp
  rw[e]at fF;cases fF
 obtain⟨i,gj,vj,zj,Oj,d,eO,aM,bK⟩:=crowd_recv_meets_some (P:=P) (sl:=sl) h0 lg gL aF fD;have hi:0<i:=by omega
 have hlt:i<gs.size:=(SR.1 aM).1;obtain⟨j,h',V₁,V₂,g1,v,z1,hK⟩:∃j h' V₁ V₂ g1 v z1,K i=.nT j h' V₁ V₂ g1 v z1:=by
  rcases GS.runs (h.is i _ hi aM)with hr|⟨hf,_⟩|x|⟨_,_,ho⟩
  ·cases hr
  ·cases hf
  ·exact x
  ·cases ho
 have dl:=h.is i _ hi aM;simp only[hK,GS.is]at dl;obtain⟨bA,hd,jk,hk,sp,S,B,hS,jl,yH,Av⟩:=dl;have efr:gj.frame=g1.frame/\gj.callers=g1.callers/\gj.dying=g1.dying/\vj=v/\zj=z1/\Oj=.send:=by
  simp only[parked,ag_,Tm,U7]at jk;obtain⟨e1,e2,_,e3,e4,e5⟩:=jk;simp[scase]at e4;exact⟨e1,e2,e3,e4.1,e4.2,e5⟩
 obtain⟨e1,e2,e3,rfl,rfl,rfl⟩:=efr;have esv:T8 gj undef=T8 g1 undef:=by simp[T8,e1,e2,e3]
 rw[ag',YA,esv]at bK;subst Av;have mh:(K i).view Im=V₁:=by rw[hK];rfl
 have aV:((gs.setIfInBounds i (T8 g1 undef)).setIfInBounds 0 (T8 g (recvd true vj true))).size=gs.size:=by simp
 have DE:Sat V₁ w:=by
  have:=h.core.sat i hlt;rwa [show bF V Im K i=(K i).view Im by simp[bF];omega,mh]at this
 have Ml:Sat V w:=by have:=h.core.sat 0 h.pos;rwa [show bF V Im K 0=V by simp[bF]]at this
 have uU:=h.met (gs':=(gs.setIfInBounds i (T8 g1 undef)).setIfInBounds 0 (T8 g (recvd true vj true))) (w':=(w.at d).setChan p.c 0 #[] false (n+1) (n+1) false) (gi:=g1) (h':=h') (V₁:=V₁) (S:=S) (sp:=sp) (B:=B) aH gI hi hlt (by rw[hK];rfl) (by rw[mh];exact dU.refl _) jl hd bA hS hk aV
  (by rw[SV (by omega),Tb hlt]) (λm hm iV=>by rw[SV (by omega),SV (Ne.symm hm)])
  (u:=Tc 0 g0.frame.fn g0.frame.place #[]++#[{g:=i,fn:=gj.frame.fn,pos:=gj.frame.place,act:=.send p.c n},{g:=0,fn:=g.frame.fn,pos:=g.frame.place,act:=.recv p.c n 0},
    {g:=i,fn:=gj.frame.fn,pos:=gj.frame.place,act:=.sendDone p.c n},{g:=0,fn:=g.frame.fn,pos:=g.frame.place,act:=.recvDone p.c n}]) (s:=n) (by simp only[Tc,Y3,if_true,Xu];rfl) ⟨rfl,rfl⟩ ⟨rfl,rfl⟩ ⟨rfl,rfl⟩ ⟨rfl,rfl⟩
  (by simp[Wm,World.at]) (λb hb=>by simp[Wm,World.at,Wt,Ne.symm hb]) ⟨n+1,by simp[Wm,World.at,h.low.1]⟩ rfl rfl rfl
 refine⟨_,_,_,_,j,sp,S,vj,V₁.ab,lU B V₁,bK,aV,⟨T8 g (recvd true vj true),?_,rfl,rfl,rfl,rfl⟩,hS,yH,uU.1,uU.2.1,⟨w,Ml,DE.ab,λb x e=> ?_⟩,uU.2.2⟩
 ·rw[Tb (by simpa using h.pos)]
 ·unfold lU at e;split at e
  ·exact DE.own b x e
  ·cases e
end
section
variable {P:SI}{n0:Nat}{W0:Tp}{V:View}{gs gs':Array SG}{w w':Tp}{sl:Option (Nat×Nat)}{t:Uo}{K:Nat->GS}{Im:cx}{ic:Nat}{ph:Option Phase}{p:Phase}{st st':Option ej}
theorem Inv.uc(h:Inv P n0 W0 V gs w t K Im ic (some p) st){i n:Nat}{gi:SG}{Stop:Nat->SG->Prop}{mk:Nat->GS}(hi:0<i)(aM:gs[i]?=some gi)(hK:K i=mk n)(cw:cU P Stop n (UY t i) gi)
  (nC:∀n d g,cU P Stop n d g->(mk n).is P p.c p.Wg Im p.Ss d g) (dS:∀n m,(mk n).shape=(mk m).shape) (Mx:∀n m,(mk n).view Im=(mk m).view Im) (Mj:∀n,qZ (mk n).db (mk (n+1)).db) (AZ:∀d g,Stop d g->g.status=.running)
  (hgo:Stop (UY t i) gi->gD P n0 W0 V gs w sl t K Im ic (some p) st i):gD P n0 W0 V gs w sl t K Im ic (some p) st i:=by
 cases n with
 |zero=>exact hgo cw
 |succ n=>
  rcases cw with hs|⟨hr,g',es,hm,aR,hs⟩
  ·exact hgo hs
  ·exact h.slip (k':=mk n) hi aM (aR w) hm (nC _ _ _ hs) (λx=>by rw[cU.running AZ hs]at x;cases x) (by rw[hK];exact dS _ _) (by rw[hK];exact Mx _ _) (λ_=>cU.running AZ hs) (by rw[hK];exact Mj n)
theorem Inv.adr(h:Inv P n0 W0 V gs w t K Im ic (some p) st){i n:Nat}{gi:SG}{Stop:Nat->SG->Prop}{mk:Nat->GS}(hi:0<i)(aM:gs[i]?=some gi)(hK:K i=mk n)(hW:∃x y,WgAt P p.Wg w x y)(cw:ij P p.Wg Stop n (UY t i) gi)
  (nC:∀n d g,ij P p.Wg Stop n d g->(mk n).is P p.c p.Wg Im p.Ss d g) (dS:∀n m,(mk n).shape=(mk m).shape) (Mx:∀n m,(mk n).view Im=(mk m).view Im) (Mj:∀n,qZ (mk n).db (mk (n+1)).db) (AZ:∀d g,Stop d g->g.status=.running)
  (hgo:Stop (UY t i) gi->gD P n0 W0 V gs w sl t K Im ic (some p) st i):gD P n0 W0 V gs w sl t K Im ic (some p) st i:=by
 cases n with
 |zero=>exact hgo cw
 |succ n=>
  rcases cw with hs|⟨hr,g',es,hm,aR,hs⟩
  ·exact hgo hs
  ·exact h.slip (k':=mk n) hi aM (aR w _ _ hW.choose_spec.choose_spec) hm (nC _ _ _ hs) (λx=>by rw[ij.running AZ hs]at x;cases x) (by rw[hK];exact dS _ _) (by rw[hK];exact Mx _ _) (λ_=>ij.running AZ hs) (by rw[hK];exact Mj n)
theorem Inv.other(h:Inv P n0 W0 V gs w t K Im ic ph st){g:SG}(pA:kB gs g\/∃p,ph=some p/\p.recv=true/\V.deaf=0/\nZ gs g p.c){i:Nat}{gi:SG}(hi:0<i)(aM:gs[i]?=some gi)(bK:gi.status=.running):
  gD P n0 W0 V gs w sl t K Im ic ph st i\/∃p,ph=some p/\Fg P n0 W0 V gs w sl t Im ic p st g i/\nZ gs g p.c:=by
 have hlt:i<gs.size:=(SR.1 aM).1;have dl:=h.out.1 i gi hi aM;have gone:∀q,K i=.gone q->Y9 P q (UY t i) gi->gD P n0 W0 V gs w sl t K Im ic ph st i:=by
  intro q hK hq;cases q with
  |zero=>rw[hq.1]at bK;cases bK
  |succ q=>
   rcases hq with⟨hf,_⟩|⟨_,g',es,hm,aR,tL⟩
   ·rw[hf]at bK;cases bK
   ·refine h.slip (k':=.gone q) hi aM (aR w) hm ?_ (λx=>by rcases tL.status with e|e<;>rw[e]at x<;>cases x) (by rw[hK];rfl) (by rw[hK];rfl) (λx=>by rw[hK]at x;rcases x with x|x<;>cases x) (by rw[hK];exact .inr ⟨rfl,.inr ⟨rfl,Uy _⟩⟩);cases ph with
    |none=>exact⟨q,rfl,tL⟩
    |some p=>exact tL
 cases ph with
 |none=>
  obtain⟨q,hK,hq⟩:=dl;exact .inl (gone q hK hq)
 |some p=>
  have eV:(K i).is P p.c p.Wg Im p.Ss (UY t i) gi:=dl;have qz:(K i).idx=none->(∀q,K i≠ .gone q)->p.recv=true:=λh1 h2=>by
   cases aH:p.recv with
   |true=>rfl
   |false=>
    have hx:=h.phase.2.2.2.2.2.2.2.2.2;rw[if_neg (by rw[aH];simp)]at hx;rcases hx.2.2.2.1 i hi hlt with x|⟨q,x⟩
    ·rw[h1]at x;cases x
    ·exact absurd x (h2 q)
  cases hK:K i with
  |gone q=>rw[hK]at eV;exact .inl (gone q hK eV)
  |nT j h' V1 V2 g0 v z=>
   rw[hK]at eV;obtain⟨_,_,rfl,_⟩:=eV;cases bK
  |work j hh Vi=>
   rw[hK]at eV;obtain⟨hd,MA,S,hS,jl⟩:=eV;have mh:bF V Im K i=Vi:=(by simp[bF,hK,GS.view];omega);have fw:Sat Vi w:=(by have:=h.core.sat i hlt;rwa [mh]at this);cases MA with
   |step G' W' E' V' hs hg h1 h2 h3=>
    exact .inl (h.aer hi aM hK (h1 w (hg.sat w fw)) (dh.si hg (h2 w (hg.sat w fw))) (h3 w (hg.sat w fw)) (.mk _ w))
   |send c Wg sp S1 v z B hs hg hr cQ ho h1 h2 h3=>
    have er:mX.work p.c p.Wg S=.work c Wg (sp::S1):=(by rw[<- jl,<- hg.role,hr]);cases er;rcases pA with hm|⟨p',AR,aH,gI,hm⟩
    ·exact .inl (h.atc hm hi aM hK hg hr cQ (h1 w (hg.sat w fw)) h2 h3)
    ·cases AR;exact .inr ⟨p,rfl,h.aq6 aH gI hm hi aM hK hg hr cQ (h1 w (hg.sat w fw)) h2 h3,hm⟩
   |done c Wg hg hr cQ h1=>
    have er:mX.work p.c p.Wg S=.work c Wg []:=(by rw[<- jl,<- hg.role,hr]);cases er;refine .inl (h.release ?_ hi aM hK hg hr cQ h1);cases aH:p.recv with
    |true=>rfl
    |false=>
     have hx:=h.phase.2.2.2.2.2.2.2.2.2;rw[if_neg (by rw[aH];simp)]at hx;exact absurd rfl (hx.2.2.2.2.1 [] (S_ hS))
   |slip c Wg hs hg hr h1 h3=>
    have er:mX.work p.c p.Wg S=.work c Wg []:=(by rw[<- jl,<- hg.role,hr]);cases er;have aH:p.recv=true:=by
     cases aH:p.recv with
     |true=>rfl
     |false=>
      have hx:=h.phase.2.2.2.2.2.2.2.2.2;rw[if_neg (by rw[aH];simp)]at hx;exact absurd rfl (hx.2.2.2.2.1 [] (S_ hS))
    obtain⟨s,hW⟩:=h.ahl aH hlt (by rw[hK];rfl);exact .inl (h.aer hi aM hK (h1 w s (hg.sat w fw) hW) (dh.si hg (dh.idle (hg.sat w fw))) h3 (B0.mk (λ_=>_) w))
  |add n=>
   rw[hK]at eV;have aH:=qz (by rw[hK];rfl) (λq=>by rw[hK];simp);exact .inl (h.uc (mk:=.add) hi aM hK eV (λ_ _ _ x=>x) (λ_ _=>rfl) (λ_ _=>rfl) (λn=> .inr ⟨rfl,.inr ⟨rfl,Uy _⟩⟩) (λ_ _ x=>x.2.1) (λhs=>h.afA aH hi aM hK hs))
  |load n=>
   rw[hK]at eV;have aH:=qz (by rw[hK];rfl) (λq=>by rw[hK];simp);exact .inl (h.uc (mk:=.load) hi aM hK eV (λ_ _ _ x=>x) (λ_ _=>rfl) (λ_ _=>rfl) (λn=> .inr ⟨rfl,.inr ⟨rfl,Uy _⟩⟩) (λ_ _ x=>x.2.1) (λhs=>h.anG aH hi aM hK hs))
  |store n=>
   rw[hK]at eV;have aH:=qz (by rw[hK];rfl) (λq=>by rw[hK];simp);exact .inl (h.uc (mk:=.store) hi aM hK eV (λ_ _ _ x=>x) (λ_ _=>rfl) (λ_ _=>rfl) (λn=> .inr ⟨rfl,.inr ⟨rfl,Uy _⟩⟩) (λ_ _ x=>x.2.1) (λhs=>h.arV aH hi aM hK hs))
  |mu n=>
   rw[hK]at eV;have aH:=qz (by rw[hK];rfl) (λq=>by rw[hK];simp);exact .inl (h.uc (mk:=.mu) hi aM hK eV (λ_ _ _ x=>x) (λ_ _=>rfl) (λ_ _=>rfl) (λn=> .inr ⟨rfl,.inr ⟨rfl,Uy _⟩⟩) (λ_ _ x=>x.2.1) (λhs=>h.aq5 aH hi aM hK hs))
  |head k n=>
   rw[hK]at eV;have aH:=qz (by rw[hK];rfl) (λq=>by rw[hK];simp);have fU:i=ic:=h.su hi (by rw[hK];rfl);exact .inl (h.uc (mk:=.head k) hi aM hK eV (λ_ _ _ x=>x) (λ_ _=>rfl) (λ_ _=>rfl) (λn=> .inr ⟨rfl,.inr ⟨rfl,Uy _⟩⟩) (λ_ _ x=>aae x) (λhs=>by subst fU;exact h.ak8 aH aM hK hs))
  |l8 v n=>
   rw[hK]at eV;have aH:=qz (by rw[hK];rfl) (λq=>by rw[hK];simp);have fU:i=ic:=h.su hi (by rw[hK];rfl);exact .inl (h.uc (mk:=.l8 v) hi aM hK eV (λ_ _ _ x=>x) (λ_ _=>rfl) (λ_ _=>rfl) (λn=> .inr ⟨rfl,.inr ⟨rfl,Uy _⟩⟩) (λ_ _ x=>x.2.1) (λhs=>by subst fU;exact h.aha aH aM hK hs))
  |said n=>
   rw[hK]at eV;have aH:=qz (by rw[hK];rfl) (λq=>by rw[hK];simp);have fU:i=ic:=h.su hi (by rw[hK];rfl);exact .inl (h.adr (mk:=.said) hi aM hK (h.Pm aH (n:=n) (.inr (by rw[<- fU];exact hK))) eV (λ_ _ _ x=>x) (λ_ _=>rfl) (λ_ _=>rfl) (λn=> .inr ⟨rfl,.inr ⟨rfl,Uy _⟩⟩) (λ_ _ x=>x.2.1) (λhs=>by subst fU;exact h.aqM aH aM hK hs))
  |io n=>
   rw[hK]at eV;have aH:=qz (by rw[hK];rfl) (λq=>by rw[hK];simp);have fU:i=ic:=h.su hi (by rw[hK];rfl);rcases eV with eV|⟨_,g1,rfl,_⟩
   ·exact .inl (h.uc (mk:=.io) hi aM hK eV (λ_ _ _ x=> .inl x) (λ_ _=>rfl) (λ_ _=>rfl) (λn=> .inr ⟨rfl,.inr ⟨rfl,Uy _⟩⟩) (λ_ _ x=>x.2.1) (λhs=>by subst fU;exact h.ahm aH aM hK hs))
   ·cases bK
  |last n=>
   rw[hK]at eV;have aH:=qz (by rw[hK];rfl) (λq=>by rw[hK];simp);have fU:i=ic:=h.su hi (by rw[hK];rfl);exact .inl (h.uc (mk:=.last) hi aM hK eV (λ_ _ _ x=>x) (λ_ _=>rfl) (λ_ _=>rfl) (λn=> .inr ⟨rfl,.inr ⟨rfl,Uy _⟩⟩) (λ_ _ x=>x.2.1) (λhs=>by subst fU;exact h.amZ aH aM hK hs))
  |acq n=>
   rw[hK]at eV;have aH:=qz (by rw[hK];rfl) (λq=>by rw[hK];simp);have fU:i=ic:=h.su hi (by rw[hK];rfl);exact .inl (h.adr (mk:=.acq) hi aM hK (h.Pm aH (n:=n) (.inl (by rw[<- fU];exact hK))) eV (λ_ _ _ x=>x) (λ_ _=>rfl) (λ_ _=>rfl) (λn=> .inr ⟨rfl,.inr ⟨rfl,Uy _⟩⟩) (λ_ _ x=>x.2.1) (λhs=>by subst fU;exact h.afv aH aM hK hs))
  |look n=>
   rw[hK]at eV;have aH:=qz (by rw[hK];rfl) (λq=>by rw[hK];simp);have fU:i=ic:=h.su hi (by rw[hK];rfl);exact .inl (h.uc (mk:=.look) hi aM hK eV (λ_ _ _ x=>x) (λ_ _=>rfl) (λ_ _=>rfl) (λn=> .inr ⟨rfl,.inr ⟨rfl,Uy _⟩⟩) (λ_ _ x=>x.2.1) (λhs=>by subst fU;exact h.anH aH aM hK hs))
  |close n=>
   rw[hK]at eV;have aH:=qz (by rw[hK];rfl) (λq=>by rw[hK];simp);have fU:i=ic:=h.su hi (by rw[hK];rfl);exact .inl (h.uc (mk:=.close) hi aM hK eV (λ_ _ _ x=>x) (λ_ _=>rfl) (λ_ _=>rfl) (λn=> .inr ⟨rfl,.inr ⟨rfl,Uy _⟩⟩) (λ_ _ x=>x.2.1) (λhs=>by subst fU;exact h.ahf aH aM hK hs))
theorem Inv.awake(h:Inv P n0 W0 V gs w t K Im ic ph st){g:SG}(pA:kB gs g\/∃p,ph=some p/\p.recv=true/\V.deaf=0/\nZ gs g p.c):∀x∈gs,awake x:=by
 intro x hx;obtain⟨i,hi⟩:=YK.1 hx;rcases Ul i with rfl|eO
 ·rcases pA with⟨g0,h0,h1,_⟩|⟨p,_,_,_,g0,z,h0,_⟩
  ·rw[hi]at h0;cases h0;intro s;rw[h1];simp
  ·rw[hi]at h0;cases h0;intro s;simp[parked]
 ·have dl:=h.out.1 i x eO hi;intro s;cases ph with
  |none=>
   obtain⟨q,_,hq⟩:=dl;rcases hq.status with e|e<;>rw[e]<;>simp
  |some p=>
   rcases GS.runs (show (K i).is P p.c p.Wg Im p.Ss (UY t i) x from dl)with e|⟨e,_⟩|⟨j,h',V1,V2,g1,v,z,e⟩|⟨_,e,_⟩
   ·rw[e];simp
   ·rw[e];simp
   ·have eV:(K i).is P p.c p.Wg Im p.Ss (UY t i) x:=dl;rw[e]at eV;obtain⟨_,_,rfl,_⟩:=eV;simp[parked]
   ·rw[e];simp
end
def Ok (P:SI)(Post:SP->Tp->Prop)(m:ar_)(t:Uo):Prop:=
 ∃M last o w' t',runNT P (M+1) m t=(.ended o w',t')/\runN P M m=.next last/\step P last=.ended o w'/\W4 P Post last o w' t'
section
variable {P:SI}{Post:SP->Tp->Prop}
theorem Ok.step{m m':ar_}{t:Uo}{ops:Array Wj}(hs:stepT P m=(.next m',ops))(h:Ok P Post m' (t++ops)):Ok P Post m t:=by
 obtain⟨M,last,o,w',t',h1,h2,h3,h4⟩:=h;refine⟨M+1,last,o,w',t',?_,?_,h3,h4⟩
 ·rw[runNT,hs];exact h1
 ·have:af_ P m=.next m':=by unfold af_;rw[hs]
  rw[runN,this];exact h2
theorem Ok.end{m:ar_}{t:Uo}{o:Outcome}{w':Tp}{ops:Array Wj}(hs:stepT P m=(.ended o w',ops))(h:W4 P Post m o w' (t++ops)):Ok P Post m t:=by
 refine⟨0,m,o,w',t++ops,?_,rfl,?_,h⟩
 ·simp[runNT,hs]
 ·unfold af_;rw[hs]
end
section
variable {P:SI}{n0:Nat}{W0:Tp}{V:View}{gs gs':Array SG}{w w':Tp}{sl:Option (Nat×Nat)}{t:Uo}{K:Nat->GS}{Im:cx}{ic:Nat}{ph:Option Phase}{p:Phase}{st st':Option ej}
theorem Inv.draw(h:Inv P n0 W0 V gs w t K Im ic ph st)(d:Nat):Inv P n0 W0 V gs (w.at d) t K Im ic ph st:=
 let⟨a,b,c,e⟩:=h.out
 Inv.mk' h.pos h.k0 h.d0 a (b.draw d) c (by cases ph<;>exact e)
theorem Ou{f:Nat->Nat}:∀{N:Nat},0<sumTo N f->∃i,i<N/\0<f i
 |0,h=>by simp[sumTo]at h
 |N+1,h=>by
  by_cases hN:0<f N
  ·exact⟨N,by omega,hN⟩
  ·obtain⟨i,hi,hf⟩:=Ou (N:=N) (f:=f) (by rw[sumTo]at h;omega);exact⟨i,by omega,hf⟩
theorem Inv.arl(h:Inv P n0 W0 V gs w t K Im ic (some p) st)(aH:p.recv=true)(ho:zL w p.c)(tu:Calm gs):∃i gi,0<i/\gs[i]?=some gi/\gi.status=.running:=by
 obtain⟨s,hs,gw,iU,hm⟩:=h.mode aH;have h0:=h.k0;have CQ:gs[ic]?=some gs[ic]:=SJ iU;have aur:(K ic).is P p.c p.Wg Im p.Ss (UY t ic) gs[ic]:=h.is ic _ gw CQ;have run:∀i x,0<i->gs[i]?=some x->(∀q,K i≠ .gone q)->(∀n,K i≠ .io n)->x.status=.running:=by
  intro i x hi hx h1 h2;rcases GS.runs (show (K i).is P p.c p.Wg Im p.Ss (UY t i) x from h.is i x hi hx)with e|⟨_,q,e⟩|⟨j,h',V1,V2,g1,v,z,e⟩|⟨⟨n,e⟩,_⟩
  ·exact e
  ·exact absurd e (h1 q)
  ·have cC:=h.is i x hi hx;simp only[e,GS.is]at cC;obtain⟨_,_,jk,_⟩:=cC;have:=tu i x hi hx (by rw[jk];rfl);rw[jk]at this;cases this
  ·exact absurd e (h2 n)
 have ML:(∀q,K ic≠ .gone q)->(∀n,K ic≠ .io n)->∃i gi,0<i/\gs[i]?=some gi/\gi.status=.running:=λa b=>⟨ic,_,gw,CQ,run ic _ gw CQ a b⟩;have other:∀i,i<gs.size->(K i).cnt=1\/(K i).late=1->∃i gi,0<i/\gs[i]?=some gi/\gi.status=.running:=by
  intro i hi hc;have eO:0<i:=by
   rcases Ul i with rfl|x
   ·rw[h0]at hc;rcases hc with c|c<;>cases c
   ·exact x
  exact⟨i,_,eO,SJ hi,run i _ eO (SJ hi) (λq e=>by rw[e]at hc;rcases hc with c|c<;>cases c) (λq e=>by rw[e]at hc;rcases hc with c|c<;>cases c)⟩
 have one:∀i,0<(K i).cnt->(K i).cnt=1:=λi hi=>by cases e:K i<;>rw[e]at hi<;>first|rfl|exact absurd hi (by simp[GS.cnt])
 have aoF:∀i,0<(K i).late->(K i).late=1:=λi hi=>by cases e:K i<;>rw[e]at hi<;>first|rfl|exact absurd hi (by simp[GS.late])
 unfold Mode at hm;rcases hm with m|m|m|m|m|m|m
 ·rcases m.2.2.2.2.2 with⟨k,e,_⟩|⟨v,e,_⟩<;>exact ML (λq x=>by rw[x]at e;cases e) (λq x=>by rw[x]at e;cases e)
 ·obtain⟨i,hi,hc⟩:=Ou (N:=gs.size) (f:=λi=>(K i).cnt) (by have:=m.2.2.2.1;omega);exact other i hi (.inl (one i hc))
 ·obtain⟨i,hi,hc⟩:=Ou (N:=gs.size) (f:=λi=>(K i).late) (by have:=m.2.2.1;omega);exact other i hi (.inr (aoF i hc))
 ·exact⟨ic,_,gw,CQ,m.2.2.2.2.2.1 _ CQ⟩
 ·rcases m.2.2.2.2.2 with e|e<;>exact ML (λq x=>by rw[x]at e;cases e) (λq x=>by rw[x]at e;cases e)
 ·rcases m.2.2.2.2 with e|e<;>exact ML (λq x=>by rw[x]at e;cases e) (λq x=>by rw[x]at e;cases e)
 ·obtain⟨⟨_,n,_,_,_,aW⟩,_⟩:=m;obtain⟨n',ho⟩:=ho;rw[aW]at ho;simp at ho
theorem sB(V':View)(Im:cx)(K:Nat->GS):bF V' Im K=upd (bF V Im K) 0 V':=by
 funext j;by_cases hj:j=0
 ·subst hj;rw[bz];simp[bF]
 ·rw[a_ _ _ hj];simp[bF,hj]
theorem kN:bF V Im K 0=V:=by simp[bF]
def vU (r:mX)(ph:Option Phase):Prop:=match r with
 |.plain=>ph=none
 |.fork c Wg Ss=>ph=some ⟨c,Wg,Ss,false⟩
 |.recv c Wg Ss=>ph=some ⟨c,Wg,Ss,true⟩
 |.work .. =>False
theorem Inv.anQ(h:Inv P n0 W0 V gs w t K Im ic ph st){V':View}(g:dU V V')(hr:vU V.role ph):Inv P n0 W0 V' gs w t K Im ic ph st:=by
 obtain⟨dl,hc,mM,gM⟩:=h.out;refine Inv.mk' h.pos h.k0 (by rw[g.deaf];exact h.d0) dl ?_ mM ?_
 ·rw[sB (V:=V)];exact hc.ghost h.pos (by rw[kN];exact g)
 ·cases ph with
  |none=>exact gM
  |some p=>
   obtain⟨a1,a2,a3,a4,a5,a6,a7,a8,a9,bT⟩:=gM;refine⟨a1,a2,a3,a4,a5,a6,a7,a8,a9,?_⟩;split
   ·rename_i aH;rw[if_pos aH]at bT;have b:ju p V:=⟨bT.1.1,bT.1.2.1,bT.1.2.2.1,bT.1.2.2.2⟩;have b':=b.ghost g;exact⟨⟨b'.1,b'.2.1,b'.2.2.1,b'.2.2.2⟩,bT.2⟩
   ·rename_i aH;rw[if_neg aH]at bT;refine⟨g.chan _ _ ?_ bT.1,bT.2⟩;unfold vU at hr;split at hr
    ·cases hr
    ·cases hr;rename_i e;rw[e];rfl
    ·cases hr;exact absurd rfl aH
    ·exact hr.elim
theorem Inv.abM(h:Inv P n0 W0 V gs w t K Im ic ph st){g0 g':SG}{es:Array Ut}{V':View}(h0:gs[0]?=some g0)(s:dh V w V' w' es)(hr:vU V.role ph):
  Inv P n0 W0 V' ((gs.map (woken P g0 g' w')).setIfInBounds 0 g') w' (t++Tc 0 g0.frame.fn g0.frame.place es) K Im ic ph st:=by
 obtain⟨dl,hc,mM,gM⟩:=h.out;have aV:((gs.map (woken P g0 g' w')).setIfInBounds 0 g').size=gs.size:=by simp
 have DF:∀op∈Tc 0 g0.frame.fn g0.frame.place es,op.g=0:=λop ay=>by obtain⟨e,_,rfl⟩:=TO ay;rfl
 have ew:∀{u:Uo}{idx:Nat}{op:Wj},(t++u)[idx]?=some op->op.g=0->Wr (t++u) 0 idx:=λ{u idx op} a b=>by have:=Zg a;rwa [b]at this
 have Sv:∀p,ph=some p->w'.heap[p.c]?=w.heap[p.c]?:=by
  rintro p rfl
  obtain⟨a1,a2,a3,a4,a5,a6,a7,a8,a9,bT⟩:=gM;by_cases aH:p.recv=true
  ·rw[if_pos aH]at bT;exact s.frame _ a4 bT.1.1
  ·rw[if_neg aH]at bT;have cu:Sat V w:=(by have:=hc.sat 0 h.pos;rwa [kN]at this);have eS:V.role.chan=some p.c:=by
    unfold vU at hr;split at hr
    ·cases hr
    ·cases hr;rename_i e;rw[e];rfl
    ·cases hr;exact absurd rfl aH
    ·exact hr.elim
   rw[s.sat.own _ _ (s.chan _ _ eS bT.1),cu.own _ _ bT.1]
 refine Inv.mk' (by rw[aV];exact h.pos) h.k0 (by rw[Deaf_own,s.deaf,h.d0]) (λj x hj hx=> ?_) ?_ ?_ ?_
 ·rcases getElem?_next h.pos hx with⟨e,_⟩|⟨_,y,hy,rfl⟩
  ·omega
  ·rw[au2 t (g:=j) (g':=0) (by omega) _ DF];have DR:=dl j y hj hy;have LJ:j<gs.size:=(SR.1 hy).1;cases ph with
   |none=>
    obtain⟨q,hq,pJ⟩:=DR;exact⟨q,hq,by rw[woken_quitsD pJ];exact pJ⟩
   |some p=>
    refine abd ?_ DR;rcases h.opens rfl with⟨n,x⟩|x
    ·exact .inl ⟨n,by rw[Sv p rfl];exact x⟩
    ·exact .inr (x.1 j hj LJ)
 ·rw[aV,sB (V:=V)];refine hc.step h.pos (by rw[kN];exact s) (λe he x hx hs=> ?_) g0.frame.fn g0.frame.place;cases ph with
  |none=>exact hs.elim
  |some p=>
   obtain⟨a1,a2,a3,a4,a5,a6,a7,a8,a9,bT⟩:=gM;have qk:=JV (s.eZ e he) hx;by_cases aH:p.recv=true
   ·exfalso;rw[if_pos aH]at bT;have b:ju p V:=⟨bT.1.1,bT.1.2.1,bT.1.2.2.1,bT.1.2.2.2⟩;rcases qk.1 with y|⟨y,_⟩|y
    ·exact b.Bd y.rd hs
    ·exact b.Bd y hs
    ·exact y (adm a4 a5 hs)
   ·rw[if_neg aH]at bT;have jl:V.role.chan=some p.c/\V.role.group=some p.Wg:=by
     unfold vU at hr;split at hr
     ·cases hr
     ·cases hr;rename_i e;rw[e];exact⟨rfl,rfl⟩
     ·cases hr;exact absurd rfl aH
     ·exact hr.elim
    have j9:m9 (some p) gs.size ic K 0:=by
     show jc p gs.size ic K 0;unfold jc;rw[if_neg aH];exact .inl rfl
    have wP:x.kind≠ .plain:=by
     intro hk;cases hl:x.loc with
     |cell a=>rw[hl]at hs;exact qk.2.2 _ a jl.2 hl hs hk
     |obj r=>rw[hl]at hs;exact qk.2.1 _ jl.1 (by rw[hl];exact congrArg _ hs)
     |_=>rw[hl]at hs;exact hs.elim
    cases hk:x.kind with
    |plain=>exact absurd hk wP
    |atomic=>exact .inl ⟨rfl,j9⟩
    |said=>exact .inr ⟨rfl,bT.2.1.symm,j9⟩
 ·have wO:∀idx a,t.size<=idx->(∃op∈Tc 0 g0.frame.fn g0.frame.place es,(t++Tc 0 g0.frame.fn g0.frame.place es)[idx]?=some op/\op.act.touch?=some a)->Wr (t++Tc 0 g0.frame.fn g0.frame.place es) 0 idx:=λidx a _ ⟨op,ay,hi,_⟩=>ew hi (DF op ay);cases st with
  |none=>
   intro idx a ha hm;rcases BI ha with gq|⟨hi,x⟩
   ·obtain⟨op,ay,_⟩:=U0 gq;rcases mM idx a gq hm with x|⟨x,y⟩|⟨_,z,_⟩
    ·exact .inl (x.app _)
    ·exact .inr (.inl ⟨x,λz=>y ((Wv (TK ay)).1 z)⟩)
    ·cases z
   ·exact .inl (wO idx a hi x)
  |some s'=>
   exact mM.app (λidx a ha hx=> .inr (hx.app (by obtain⟨op,ay,_⟩:=U0 ha;exact TK ay) λj _ _ hj=> .inl hj)) (λidx a hi x _=> .inl (wO idx a hi x))
 ·cases ph with
  |none=>exact gM
  |some p=>
   obtain⟨a1,a2,a3,a4,a5,a6,a7,a8,a9,bT⟩:=gM;refine⟨a1,a2,a3,Tf a4 s.size,Tf a5 s.size,a6,a7,λj j' m b1 b2 b3 b4=>a8 j j' m b1 (aV▸b2) b3 (aV▸b4),λj S b1 b2=>by rw[aV];exact a9 j S b1 b2,?_⟩;split
   ·rename_i aH;rw[if_pos aH]at bT;obtain⟨c1,c2,c3,s',c4,c5⟩:=bT;have b:ju p V:=⟨c1.1,c1.2.1,c1.2.2.1,c1.2.2.2⟩;have b':=b.step s a4 a5;refine⟨⟨b'.1,b'.2.1,b'.2.2.1,b'.2.2.2⟩,c2,by rw[aV];exact c3,s',c4,?_⟩;rw[aV];refine c5.keep (λ_=>rfl) (Sv p rfl) (s.frame _ a5 b.2.2.1) λrT g hg=> ?_;rcases getElem?_next h.pos hg with⟨e,_⟩|⟨_,y,hy,rfl⟩
    ·omega
    ·rw[Yo (rT y hy)];exact rT y hy
   ·rename_i aH;rw[if_neg aH]at bT;have eS:V.role.chan=some p.c:=by
     unfold vU at hr;split at hr
     ·cases hr
     ·cases hr;rename_i e;rw[e];rfl
     ·cases hr;exact absurd rfl aH
     ·exact hr.elim
    exact⟨s.chan _ _ eS bT.1,bT.2.1,bT.2.2.1,by rw[aV];exact bT.2.2.2.1,bT.2.2.2.2.1,by rw[aV];exact bT.2.2.2.2.2⟩
end
theorem ad8{x y:Wj}{k:Nat}(hx:x.act=.go k)(hy:y.act=.start):∀op∈(#[x,y]:Uo),op.act.touch?=none/\still op.act/\(∀B,op.act.low B)/\∀a,op.act≠ .mark (.release a):=by
 intro op ay;simp only[TM,SK,SZ,or_false]at ay;rcases ay with rfl|rfl
 ·rw[hx];exact⟨rfl,⟨by simp,by simp⟩,λ_=>trivial,by simp⟩
 ·rw[hy];exact⟨rfl,⟨by simp,by simp⟩,λ_=>trivial,by simp⟩
theorem Qn{t:Uo}{N:Nat}(h:∀op∈t,op.g<N):UY t N=0:=by
 have key:∀k,k<=t.size->t.deaf N k=0:=by
  intro k;induction k with
  |zero=>intro _;rfl
  |succ k ih=>
   intro hk;have hy:t[k]?=some t[k]:=SJ (by omega);have aF:¬t[k].g=N:=(by have:=h t[k] (XX _);omega);rw[ac' hy,ih (by omega)];unfold deafStep;split<;>simp[aF]
 exact key _ (SO _)
section
variable {VV:Nat->View}{N:Nat}{w:Tp}{t:Uo}{Sh:Loc->Prop}{act act':Nat->Prop}{ic kH n0:Nat}{W0:Tp}
theorem Core.spawn(h:Core VV N w t Sh act ic n0 W0)(h0:0<N)(aX:UY t 0=0){x y:Wj}(hx:x.g=0/\x.act=.go N)(hy:y.g=N/\y.act=.start){U:View}(hi:U.ab=(VV 0).ab)(ho:U.own=λ_=>none)
  (j9:∀i,act' i->act i\/(i=N/\act 0)) (fU:kH=ic\/(kH=N/\ic=0)):Core (upd VV N U) (N+1) w (t++#[x,y]) Sh act' kH n0 W0:=by
 have jF:=ad8 hx.2 hy.2;have hdN:UY t N=0:=Qn h.ti.gs;have hk:∀{idx},Wr t 0 idx->Wr (t++#[x,y]) N idx:=λ{idx} jI=>fork_knows hx hy aX hdN jI;have hsU:Sat U w:=⟨λb o v e=>(h.sat 0 h0).ab b o v (by rw[<- hi];exact e),λb x e=>by rw[ho]at e;cases e⟩;refine⟨λi cC=> ?_,λa b ha hb fC=> ?_,?_,h.tape,h.os,h.out,h.old,λi cC b hb=> ?_,h.n0⟩
 ·by_cases ft:i=N
  ·subst ft;rw[bz];exact hsU
  ·rw[a_ _ _ ft];exact h.sat i (by omega)
 ·by_cases Sg:a=N
  ·subst Sg;rw[bz];intro q hq;rw[ho]at hq;exact absurd rfl hq
  ·rw[a_ _ _ Sg];by_cases So:b=N
   ·subst So;rw[bz];intro q hq;refine⟨by rw[ho],λo hu=> ?_⟩;rw[hi]at hu;by_cases Ax:a=0
    ·subst Ax;exact hu
    ·exact(h.dN a 0 (by omega) h0 Ax q hq).2 o hu
   ·rw[a_ _ _ So];exact h.dN a b (by omega) (by omega) fC
 ·refine h.ti.mute (λop ay=>(jF op ay).1) (λop ay=>(jF op ay).2.2.1 _) (λop ay=> ?_) (by omega) (λop ay=>(jF op ay).2.2.2) (λi cC l hl idx a ha gJ rZ=> ?_) (λi cC l hl idx a ha gJ=> ?_) (λidx a ha dS=>⟨λhp i cC=> ?_,λhp=> ?_⟩)
  ·simp only[TM,SK,SZ,or_false]at ay;rcases ay with rfl|rfl
   ·omega
   ·omega
  ·obtain⟨_,cP,mb⟩:=hl;by_cases ft:i=N
   ·subst ft;rw[bz]at cP;have:gV (VV 0) l:=by
     cases l with
     |cell a'=>rcases cP with z|z;exact absurd (by rw[ho]) z;exact .inr (by rw[<- hi];exact z)
     |obj r=>exact absurd (by rw[ho]) cP
     |_=>exact cP.elim
    exact hk (h.ti.kr 0 h0 l ⟨h0,this,mb⟩ idx a ha gJ rZ)
   ·rw[a_ _ _ ft]at cP;exact(h.ti.kr i (by omega) l ⟨by omega,cP,mb⟩ idx a ha gJ rZ).app _
  ·obtain⟨_,cP,mb⟩:=hl;by_cases ft:i=N
   ·subst ft;rw[bz]at cP;exfalso;cases l with
    |cell a'=>exact cP.1 (by rw[ho])
    |obj r=>exact cP (by rw[ho])
    |_=>exact cP.elim
   ·rw[a_ _ _ ft]at cP;exact(h.ti.kw i (by omega) l ⟨by omega,cP,mb⟩ idx a ha gJ).app _
  ·have:=h.ti.sp idx a ha dS;rcases j9 i cC with z|⟨rfl,z⟩
   ·exact(this.1 hp i z).app _
   ·exact hk (this.1 hp 0 z)
  ·have:=h.ti.sp idx a ha dS;rcases fU with rfl|⟨rfl,rfl⟩
   ·exact(this.2 hp).app _
   ·exact hk (this.2 hp)
 ·by_cases ft:i=N
  ·subst ft;rw[bz,ho]
  ·rw[a_ _ _ ft];exact h.jo i (by omega) b hb
end
section
variable {P:SI}{n0:Nat}{W0:Tp}{V:View}{gs gs':Array SG}{w w':Tp}{sl:Option (Nat×Nat)}{t:Uo}{K:Nat->GS}{Im:cx}{ic:Nat}{ph:Option Phase}{p:Phase}{st st':Option ej}
theorem GS.ael{k:GS}(h:k.nf=false)(Im kQ:cx):k.view kQ=k.view Im:=by cases k<;>first|rfl|cases h
theorem GS.amz{k:GS}{c Wg d:Nat}{Im kQ:cx}{Ss Pg:List (List Spec)}{g:SG}(h:k.nf=false)(hS:∀(j:Nat) S,Ss[j]?=some S->Pg[j]?=some S)(hk:k.is P c Wg Im Ss d g):k.is P c Wg kQ Pg d g:=by
 cases k with
 |work j hh V=>obtain⟨a,b,S,e,f⟩:=hk;exact⟨a,b,S,hS _ _ e,f⟩
 |nT j hh V V' g0 v z=>obtain⟨a,b,c,d,sp,S,B,e,f⟩:=hk;exact⟨a,b,c,d,sp,S,B,hS _ _ e,f⟩
 |gone q=>exact hk
 |add n=>exact hk
 |load n=>exact hk
 |store n=>exact hk
 |mu n=>exact hk
 |head k n=>cases h
 |l8 k n=>cases h
 |said n=>cases h
 |io n=>cases h
 |last n=>cases h
 |acq n=>cases h
 |look n=>cases h
 |close n=>cases h
theorem Inv.spawn(h:Inv P n0 W0 V gs w t K Im ic (some p) st)(aH:p.recv=false)(gI:V.deaf=0){g' child:SG}{x y:Wj}(hx:x.g=0/\x.act=.go gs.size)(hy:y.g=gs.size/\y.act=.start){V':View}{p':Phase}{kQ:cx}{kH:Nat}{k':GS}(hc:p'.c=p.c)(Aw:p'.Wg=p.Wg)
  (qv:mB V' V) (uL:V'.deaf=V.deaf) (qE:(k'.view kQ).ab=V.ab) (hvo:(k'.view kQ).own=λ_=>none) (hSs:∀(j:Nat) S,p.Ss[j]?=some S->p'.Ss[j]?=some S) (Dc:k'.is P p.c p.Wg kQ p'.Ss 0 child)
  (j9:∀i,i<gs.size->jc p' (gs.size+1) kH (upd K gs.size k') i->jc p gs.size ic K i) (fU:kH=ic\/kH=gs.size)
  (Du:zM P n0 V' ((gs.setIfInBounds 0 g').push child) w (t++#[x,y]) (upd K gs.size k') kQ kH (some p') (some .early)):
  Inv P n0 W0 V' ((gs.setIfInBounds 0 g').push child) w (t++#[x,y]) (upd K gs.size k') kQ kH (some p') (some .early):=by
 obtain⟨dl,gZ,mM,gM⟩:=h.out;obtain⟨a1,a2,a3,a4,a5,a6,a7,a8,a9,bT⟩:=gM;rw[if_neg (by rw[aH];simp)]at bT;obtain⟨c1,c2,c3,c4,c5,c6⟩:=bT;have aV:((gs.setIfInBounds 0 g').push child).size=gs.size+1:=by simp
 have jF:=ad8 hx.2 hy.2;have bA:∀i,UY (t++#[x,y]) i=UY t i:=λi=>Deaf_still λop ay=>(jF op ay).2.1;have yE:=h.pos;have aX:UY t 0=0:=by rw[h.d0,gI]
 have aW:∀i,0<i->(K i).nf=false:=λi hi=>by
  cases e:(K i).nf with
  |false=>rfl
  |true=>have:=h.su hi e;omega
 have aks:m9 (some p) gs.size ic K 0:=by
  show jc p gs.size ic K 0;unfold jc;rw[if_neg (by rw[aH];simp)];exact .inl rfl
 have yp:=gZ.spawn (act':=m9 (some p') (gs.size+1) kH (upd K gs.size k')) (kH:=kH) yE aX hx hy (U:=k'.view kQ) (by rw[kN];exact qE) hvo (λi hi=>by
   by_cases ft:i<gs.size
   ·exact .inl (j9 i ft hi)
   ·refine .inr ⟨?_,aks⟩;have cC:jc p' (gs.size+1) kH (upd K gs.size k') i:=hi;unfold jc at cC;split at cC<;>omega) (fU.imp id λe=>⟨e,c2⟩)
 have akR:=(yp.less (i:=0) (V':=V') (by omega) (by rw[a_ _ _ (by omega),kN];exact qv)).congr (Fj:=bF V' kQ (upd K gs.size k')) λi hi=>by
  by_cases eO:i=0
  ·subst eO;rw[bz];simp[bF]
  ·rw[a_ _ _ eO];by_cases ft:i=gs.size
   ·subst ft;rw[bz];simp[bF,eO,bz]
   ·rw[a_ _ _ ft];simp only[bF,eO,if_false,a_ _ _ ft];exact GS.ael (aW i (by omega)) _ _
 refine Inv.mk' (by omega) (by rw[a_ _ _ (by omega)];exact h.k0) (by rw[bA,uL];exact h.d0) (λi z hi hz=> ?_) ?_ ?_ Du
 ·rw[bA];show (upd K gs.size k' i).is P p'.c p'.Wg kQ p'.Ss _ z;rw[hc,Aw];by_cases ft:i=gs.size
  ·subst ft;rw[bz,Qn gZ.ti.gs];have:z=child:=by
    rw[show gs.size=(gs.setIfInBounds 0 g').size by simp]at hz;rw[Array.getElem?_push_size]at hz;exact(V_ hz).symm
   rw[this];exact Dc
  ·have aup:i<gs.size:=(by have:=(SR.1 hz).1;omega);rw[a_ _ _ ft];rw[Xl,if_neg (by simp;omega),SV (by omega)]at hz;exact GS.amz (aW i hi) hSs (dl i z hi hz)
 ·rw[aV];have e:sq (some p')=sq (some p):=by show rc p'.c p'.Wg=rc p.c p.Wg;rw[hc,Aw]
  rw[e];exact akR
 ·have hr:Rest p.Wg t K ic st:=mM;rw[c3]at hr;show Rest p'.Wg _ _ _ _;rw[Aw];intro idx a ha hm;have gq:=BJ (λop ay=>(jF op ay).1) ha;obtain⟨op,ay,_⟩:=U0 gq;have hlt:=TK ay;rcases hr idx a gq hm with z|⟨z1,z2⟩|⟨s,hs,jI⟩
  ·exact .inl (z.app _)
  ·exact .inr (.inl ⟨z1,λz=>z2 ((Wv hlt).1 z)⟩)
  ·cases hs;obtain⟨i,hg,hi,hz⟩:=jI;have ft:i<gs.size:=by
    obtain⟨op',ba,pC⟩:=Tq.1 hg;rw[<- pC];exact gZ.ti.gs op' (XW ba)
   refine .inr (.inr ⟨.early,rfl,i,by rw[g?_old hlt];exact hg,hi,?_⟩);rcases hz with hz|hz|⟨r,hz,hle⟩
   ·exact .inl (by rw[a_ _ _ (by omega)];exact hz)
   ·omega
   ·exact .inr (.inr ⟨r,hz.app,hle⟩)
theorem Sat.MO{c:Nat}{a:Nat}{x:Bool}{y z:Nat}{u:Bool}{FE:Array SP}(h:Sat V w)(hc:w.heap[c]?=some (.chan a FE x y z u))(o:Nat):V.ab c o=none:=by
 cases e:V.ab c o with
 |none=>rfl
 |some v=>have:=h.ab c o v e;simp[UA,hc]at this
theorem Inv.abY(h:Inv P n0 W0 V gs w t K Im ic (some p) st)(aH:p.recv=false){i:Nat}(hi:0<i):(K i).nf=false:=by
 have hx:=h.phase.2.2.2.2.2.2.2.2.2;rw[if_neg (by rw[aH];simp)]at hx;cases e:(K i).nf with
 |false=>rfl
 |true=>have:=h.su hi e;have:=hx.2.1;omega
theorem Inv.F1(h:Inv P n0 W0 V gs w t K Im ic (some p) st)(aH:p.recv=false)(gI:V.deaf=0){g' child:SG}{x y:Wj}(hx:x.g=0/\x.act=.go gs.size)(hy:y.g=gs.size/\y.act=.start){hh:Ht}{sp:Spec}{S:List Spec}(hlen:p.Ss.length<4)(oy:∀o,V.ab p.Wg o=none)
  (Dc:lA P hh {ab:=V.ab,own:=λ_=>none,deaf:=0,role:=.work p.c p.Wg (sp::S)} child):
  Inv P n0 W0 {V with role:=.fork p.c p.Wg (p.Ss++[sp::S])} ((gs.setIfInBounds 0 g').push child) w (t++#[x,y]) (upd K gs.size (.work p.Ss.length hh {ab:=V.ab,own:=λ_=>none,deaf:=0,role:=.work p.c p.Wg (sp::S)})) Im ic
   (some {p with Ss:=p.Ss++[sp::S]}) (some .early):=by
 obtain⟨dl,gZ,mM,gM⟩:=h.out;obtain⟨a1,a2,a3,a4,a5,a6,a7,a8,a9,bT⟩:=gM;rw[if_neg (by rw[aH];simp)]at bT;obtain⟨c1,c2,c3,c4,c5,c6⟩:=bT;have aV:((gs.setIfInBounds 0 g').push child).size=gs.size+1:=by simp
 have cu:Sat V w:=by have:=gZ.sat 0 h.pos;rwa [kN]at this
 have AE:=cu.MO (cu.own _ _ c1);have c_:∀i j,0<i->i<gs.size->(K i).idx=some j->j<p.Ss.length:=λi j hi hlt e=>by
  have hik:=dl i _ hi (SJ hlt);have LD:(K i).is P p.c p.Wg Im p.Ss (UY t i) gs[i]:=hik;cases kW:K i<;>rw[kW]at e LD<;>simp[GS.idx]at e
  ·subst e;obtain⟨_,_,S,e,_⟩:=LD;exact(SL.1 e).1
  ·subst e;obtain⟨_,_,_,_,_,_,_,e,_⟩:=LD;exact(SL.1 e).1
 refine h.spawn aH gI hx hy rfl rfl ⟨λ_=> .inr rfl,λ_ _=> .inr rfl,λ_ _ _=>rfl⟩ rfl rfl rfl (λj S' e=> ?_) ⟨rfl,Dc,sp::S,by simp,rfl⟩ (λi hi j9=> ?_) (.inl rfl) ?_
 ·show (p.Ss++[sp::S])[j]?=some S';rw[SX (SL.1 e).1];exact e
 ·unfold jc at j9⊢;rw[if_neg (by show ¬p.recv=true;rw[aH];simp)]at j9;rw[if_neg (by rw[aH];simp)];rw[a_ _ _ (by omega)]at j9;exact j9.imp id λz=>⟨hi,z.2⟩
 ·refine⟨a1,a2,a3,a4,a5,by simp only[S5,Un,UW];omega,λi hi=> ?_,λi i' j b1 b2 b3 b4 b5 b6=> ?_,λj S' b1 b2=> ?_,?_⟩
  ·by_cases ft:i=gs.size
   ·subst ft;rw[bz];exact⟨rfl,AE,rfl,oy,λe=>by cases e⟩
   ·rw[a_ _ _ ft];exact a7 i hi
  ·rw[aV]at b2 b4;by_cases e1:i=gs.size
   ·by_cases e2:i'=gs.size
    ·omega
    ·rw[a_ _ _ e2]at b6;have:=c_ i' j b3 (by omega) b6;subst e1;rw[bz]at b5;simp only[GS.idx,Tm]at b5;omega
   ·rw[a_ _ _ e1]at b5;by_cases e2:i'=gs.size
    ·have:=c_ i j b1 (by omega) b5;subst e2;rw[bz]at b6;simp only[GS.idx,Tm]at b6;omega
    ·rw[a_ _ _ e2]at b6;exact a8 i i' j b1 (by omega) b3 (by omega) b5 b6
  ·rw[aV];by_cases hj:j<p.Ss.length
   ·have:p.Ss[j]?=some S':=by
     have Jj:(p.Ss++[sp::S])[j]?=some S':=b1;rwa [SX hj]at Jj
    obtain⟨i,e1,e2,e3⟩:=a9 j S' this b2;exact⟨i,e1,by omega,by rw[a_ _ _ (by omega)];exact e3⟩
   ·have iE:j=p.Ss.length:=by
     have:=(SL.1 (show (p.Ss++[sp::S])[j]?=some S' from b1)).1;simp at this;omega
    exact⟨gs.size,h.pos,by omega,by rw[bz,iE];rfl⟩
  ·show if p.recv=true then _ else _;rw[if_neg (by rw[aH];simp)];refine⟨c1,c2,rfl,λi b1 b2=> ?_,λS' hS'=> ?_,?_⟩
   ·rw[aV]at b2;by_cases ft:i=gs.size
    ·subst ft;rw[bz];exact .inl rfl
    ·rw[a_ _ _ ft];exact c4 i b1 (by omega)
   ·rcases SQ.1 hS' with z|z
    ·exact c5 S' z
    ·simp at z;subst z;simp
   ·rw[aV,sumTo,bz,S5,<- c6];rw[Vq (g:=λi=>(K i).cnt) λi hi=>by rw[a_ _ _ (by omega)]];rfl
theorem Inv.F0(h:Inv P n0 W0 V gs w t K Im ic (some p) st)(aH:p.recv=false)(gI:V.deaf=0){g' child:SG}{x y:Wj}(hx:x.g=0/\x.act=.go gs.size)(hy:y.g=gs.size/\y.act=.start){n:Nat}
  (Aw:V.own p.Wg=some (wgBlock P (((p.Ss.length:Nat):Int)* KK) 0)) (oy:∀o,V.ab p.Wg o=none) (Dc:cU P (eE P V.ab p.c p.Wg 5) n 0 child):
  Inv P n0 W0 {V with own:=λb=>if b=p.c\/b=p.Wg then none else V.own b,role:=.recv p.c p.Wg p.Ss} ((gs.setIfInBounds 0 g').push child) w (t++#[x,y]) (upd K gs.size (.head 5 n)) V.ab gs.size (some {p with recv:=true}) (some .early):=by
 obtain⟨dl,gZ,mM,gM⟩:=h.out;obtain⟨a1,a2,a3,a4,a5,a6,a7,a8,a9,bT⟩:=gM;rw[if_neg (by rw[aH];simp)]at bT;obtain⟨c1,c2,c3,c4,c5,c6⟩:=bT;have aV:((gs.setIfInBounds 0 g').push child).size=gs.size+1:=by simp
 have cu:Sat V w:=by have:=gZ.sat 0 h.pos;rwa [kN]at this
 have AE:=cu.MO (cu.own _ _ c1);have yE:=h.pos;refine h.spawn aH gI hx hy rfl rfl ⟨λb=> ?_,λ_ _=> .inr rfl,λ_ _ _=>rfl⟩ rfl rfl rfl (λj S' e=>e) Dc (λi hi j9=> ?_) (.inr rfl) ?_
 ·by_cases e:b=p.c\/b=p.Wg
  ·exact .inl (by simp only[e,if_true])
  ·exact .inr (by simp only[e,if_false])
 ·unfold jc at j9⊢;rw[if_pos rfl]at j9;rw[if_neg (by rw[aH];simp)];rw[a_ _ _ (by omega)]at j9;obtain⟨z1,_,z2⟩:=j9;rcases c4 i z1 hi with z|⟨q,z⟩
  ·exact .inr ⟨hi,z⟩
  ·exfalso;rw[z]at z2;rcases z2 with z2|z2|z2|z2
   ·cases z2
   ·omega
   ·cases z2
   ·cases z2
 ·refine⟨a1,a2,a3,a4,a5,a6,λi hi=> ?_,λi i' j b1 b2 b3 b4 b5 b6=> ?_,λj S' b1 b2=> ?_,?_⟩
  ·by_cases ft:i=gs.size
   ·subst ft;rw[bz];exact⟨rfl,AE,rfl,oy,λ_=>rfl⟩
   ·rw[a_ _ _ ft,GS.ael (h.abY aH hi) Im];have:=a7 i hi;exact⟨this.1,this.2.1,this.2.2.1,this.2.2.2.1,λe=>by rw[h.abY aH hi]at e;cases e⟩
  ·rw[aV]at b2 b4;by_cases e1:i=gs.size
   ·subst e1;rw[bz]at b5;cases b5
   ·by_cases e2:i'=gs.size
    ·subst e2;rw[bz]at b6;cases b6
    ·rw[a_ _ _ e1]at b5;rw[a_ _ _ e2]at b6;exact a8 i i' j b1 (by omega) b3 (by omega) b5 b6
  ·obtain⟨i,e1,e2,e3⟩:=a9 j S' b1 b2;exact⟨i,e1,by omega,by rw[a_ _ _ (by omega)];exact e3⟩
  ·show if true=true then _ else _;rw[if_pos rfl];refine⟨⟨by simp,AE,by simp,oy⟩,by omega,by rw[aV];omega,.early,rfl,?_⟩;rw[aV];have e1:sumTo (gs.size+1) (λi=>(upd K gs.size (.head 5 n) i).cnt)=p.Ss.length:=by
    rw[sumTo,bz,<- c6];rw[Vq (g:=λi=>(K i).cnt) λi hi=>by rw[a_ _ _ (by omega)]];rfl
   have e2:sumTo (gs.size+1) (λi=>(upd K gs.size (.head 5 n) i).late)=0:=by
    have hz:∀N,sumTo N (λ_=>0)=0:=λN=>(by induction N with|zero=>rfl|succ N ih=>simp[sumTo,ih]);rw[sumTo,bz];rw[Vq (g:=λ_=>0) λi hi=> ?_,hz]
    ·rfl
    ·rw[a_ _ _ (by omega)];rcases Ul i with rfl|eO
     ·rw[h.k0];rfl
     ·rcases c4 i eO hi with z|⟨q,z⟩
      ·cases kW:K i<;>rw[kW]at z<;>first|rfl|cases z
      ·rw[z];rfl
   unfold Mode;simp only[e1,e2,bz];exact .inl ⟨⟨0,cu.own _ _ c1⟩,trivial,trivial,a6,cu.own _ _ Aw,.inl ⟨5,rfl,by omega⟩⟩
theorem Inv.begin(h:Inv P n0 W0 V gs w t K Im ic none st){c Wg:Nat}(aF:c≠Wg)(hc:V.own c=some (.chan 0 #[] false 0 0 false)) (hW:V.own Wg≠none) (oy:∀o,V.ab Wg o=none):
  Inv P n0 W0 {V with role:=.fork c Wg []} gs w t (λi=>if i<gs.size then K i else .gone 0) Im 0 (some ⟨c,Wg,[],false⟩) (some .early):=by
 obtain⟨dl,gZ,mM,gM⟩:=h.out;have cu:Sat V w:=by have:=gZ.sat 0 h.pos;rwa [kN]at this
 have AE:=cu.MO (cu.own _ _ hc);have tD:∀i,(∃q,(if i<gs.size then K i else .gone 0)=GS.gone q):=λi=>by
  by_cases hi:i<gs.size
  ·rw[if_pos hi];rcases Ul i with rfl|eO
   ·exact⟨0,h.k0⟩
   ·obtain⟨q,hq,_⟩:=dl i _ eO (SJ hi);exact⟨q,hq⟩
  ·rw[if_neg hi];exact⟨0,rfl⟩
 have iw:∀{b x},V.own b=some x->n0<=b/\b<w.heap.size:=λ{b x} e=>by
  refine⟨?_,cu.lt e⟩;apply Nat.le_of_not_lt;intro hb;have:=gZ.jo 0 h.pos b hb;rw[kN,e]at this;cases this
 obtain⟨xW,hxW⟩:∃x,V.own Wg=some x:=by cases e:V.own Wg with|none=>exact absurd e hW|some x=>exact⟨x,rfl⟩
 have mh:∀i,0<i->((if i<gs.size then K i else .gone 0).view Im)=noView:=λi _=>by obtain⟨q,e⟩:=tD i;rw[e];rfl
 refine Inv.mk' h.pos (by rw[if_pos h.pos];exact h.k0) h.d0 (λi x hi hx=> ?_) ?_ ?_ ?_
 ·have hlt:i<gs.size:=(SR.1 hx).1;obtain⟨q,hq,hy⟩:=dl i x hi hx;show (if i<gs.size then K i else .gone 0).is P c Wg Im [] _ x;rw[if_pos hlt,hq];exact hy
 ·have bi:Core (bF {V with role:=.fork c Wg []} Im (λi=>if i<gs.size then K i else .gone 0)) gs.size w t (sq none) (m9 none gs.size ic K) ic n0 W0:=by
   refine(gZ.role (i:=0) (V':={V with role:=.fork c Wg []}) h.pos (by rw[kN]) (by rw[kN])).congr λi hi=> ?_;by_cases eO:i=0
   ·subst eO;rw[bz];simp[bF]
   ·rw[a_ _ _ eO];simp[bF,eO,hi]
  refine⟨bi.sat,bi.dN,?_,bi.tape,bi.os,bi.out,bi.old,bi.jo,bi.n0⟩;refine bi.ti.weaken (SO _) (λi l _ x=> .inl ⟨x.1,x.2.1,λz=>z.elim⟩) (λi l _ x=>⟨x.1,x.2.1,λz=>z.elim⟩) (λidx a ha dS=> ?_);have hk:Wr t 0 idx:=by
   have yM:jO V a.loc:=by
    have A0:rc c Wg a.loc:=dS;cases hl:a.loc with
    |cell ad=>rw[hl]at A0;have e:ad.block=Wg:=A0;exact⟨by rw[e];exact hW,by rw[e];exact oy _⟩
    |obj r=>rw[hl]at A0;have e:r=c:=A0;show V.own r≠none;rw[e,hc];simp
    |_=>rw[hl]at A0;exact A0.elim
   exact gZ.ti.kw 0 h.pos a.loc ⟨h.pos,by rw[kN];exact yM,λz=>z.elim⟩ idx a ha rfl
  refine⟨λ_ i hi=> ?_,λ_=>hk⟩;have cC:jc ⟨c,Wg,[],false⟩ gs.size 0 (λi=>if i<gs.size then K i else .gone 0) i:=hi;unfold jc at cC;rw[if_neg (by simp)]at cC;rcases cC with rfl|⟨_,e⟩
  ·exact hk
  ·obtain⟨q,eq⟩:=tD i;simp only[eq]at e;cases e
 ·have aR:st=none:=gM;intro idx a ha hm;rcases mM idx a ha hm with z|z|⟨s,e,_⟩
  ·exact .inl z
  ·exact .inr (.inl z)
  ·rw[aR]at e;cases e
 ·refine⟨(iw hc).1,(iw hxW).1,aF,(iw hc).2,(iw hxW).2,by simp,λi hi=> ?_,λi i' j _ _ _ _ b5=> ?_,λj S b1=>by simp at b1,?_⟩
  ·rw[mh i hi];exact⟨rfl,λ_=>rfl,rfl,λ_=>rfl,λe=>by obtain⟨q,eq⟩:=tD i;simp only[eq]at e;cases e⟩
  ·obtain⟨q,eq⟩:=tD i;simp only[eq]at b5;cases b5
  ·show if false=true then _ else _;rw[if_neg (by simp)];refine⟨hc,rfl,rfl,λi _ _=> .inr (tD i),by simp,?_⟩;have hz:∀N,sumTo N (λ_=>0)=0:=λN=>(by induction N with|zero=>rfl|succ N ih=>simp[sumTo,ih]);rw[Vq (g:=λ_=>0) λi _=>by obtain⟨q,eq⟩:=tD i;show (if i<gs.size then K i else GS.gone 0).cnt=0;rw[eq];rfl];exact hz _
theorem Inv.arh(h:Inv P n0 W0 V gs w t K Im ic (some p) st)(aH:p.recv=true)(gI:V.deaf=0){g0 g':SG}{n:Nat}(aW:w.heap[p.c]?=some (.chan 0 #[] true n n false)) {y:Wj} (hy:y.g=0/\y.act=.recvClosed p.c):
  (∀S∈p.Ss,S=[])/\Inv P n0 W0 {V with role:=.plain} (gs.setIfInBounds 0 g') w (t++#[y]) K Im ic none none:=by
 obtain⟨dl,gZ,mM,gM⟩:=h.out;obtain⟨a1,a2,a3,a4,a5,a6,a7,a8,a9,bT⟩:=gM;rw[if_pos aH]at bT;obtain⟨c1,c2,c3,s,c4,c5⟩:=bT;have yB:(∃pp n,s=.shut pp/\t.act? pp=some (.close p.c)/\t.heard pp/\w.heap[p.c]?=some (.chan 0 #[] true n n false))/\(sumTo gs.size λi=>(K i).late)=0/\(sumTo gs.size λi=>(K i).cnt)=0/\(K ic).shape=.gone 0:=by
  have no:¬∃n,w.heap[p.c]?=some (.chan 0 #[] false n n false):=λ⟨m,e⟩=>by rw[aW]at e;simp at e
  unfold Mode at c5;rcases c5 with m|m|m|m|m|m|m
  ·exact absurd m.1 no
  ·exact absurd m.1 no
  ·exact absurd m.1 no
  ·exact absurd m.1 no
  ·exact absurd m.1 no
  ·exact absurd m.1 no
  ·exact m
 obtain⟨⟨pp,n',rfl,m1,m2,_⟩,m3,m4,m5⟩:=yB;have tD:∀i,i<gs.size->∃q,K i=.gone q:=λi hi=>by
  have e1:(K i).cnt<=sumTo gs.size λi=>(K i).cnt:=WH (f:=λi=>(K i).cnt) hi;have e2:(K i).late<=sumTo gs.size λi=>(K i).late:=WH (f:=λi=>(K i).late) hi;rcases Ul i with rfl|eO
  ·exact⟨0,h.k0⟩
  ·have hc:=h.su (i:=i) eO;have z1:(K i).cnt=0:=(by omega);have z2:(K i).late=0:=(by omega);clear e1 e2;cases kW:K i<;>rw[kW]at z1 z2 hc<;>first
    |exact⟨_,rfl⟩
    |(exfalso;simp[GS.cnt]at z1;done)
    |(exfalso;simp[GS.late]at z2;done)
    |(exfalso;have:=hc rfl;subst this;rw[kW]at m5;cases m5)
 have bV:ju p V:=⟨c1.1,c1.2.1,c1.2.2.1,c1.2.2.2⟩;have aX:UY t 0=0:=by rw[h.d0,gI]
 have nJ:∀op∈(#[y]:Uo),op.act.touch?=none/\still op.act/\op.act.low w.heap.size/\(∀a,op.act≠ .mark (.release a))/\op.g=0:=by
  intro op ay;simp only[TM,SK,SZ,or_false]at ay;subst ay;rw[hy.2];exact⟨rfl,⟨by simp,by simp⟩,a4,by simp,hy.1⟩
 have bA:∀i,UY (t++#[y]) i=UY t i:=λi=>Deaf_still λop ay=>(nJ op ay).2.1;have aV:(gs.setIfInBounds 0 g').size=gs.size:=by simp
 refine⟨λS hS=> ?_,?_⟩
 ·obtain⟨j,hj⟩:=UV.1 hS;apply Tn;intro aF;obtain⟨i,e1,e2,e3⟩:=a9 j S hj aF;obtain⟨q,e⟩:=tD i e2;rw[e]at e3;cases e3
 ·refine Inv.mk' (by rw[aV];exact h.pos) h.k0 (by rw[bA];exact h.d0) (λi x hi hx=> ?_) ?_ ?_ rfl
  ·rw[SV (by omega)]at hx;have hlt:i<gs.size:=(SR.1 hx).1;obtain⟨q,e⟩:=tD i hlt;have hk:(K i).is P p.c p.Wg Im p.Ss (UY t i) x:=dl i x hi hx;rw[e]at hk;rw[bA];exact⟨q,e,hk⟩
  ·rw[aV];have h1:=(gZ.role (i:=0) (V':={V with role:=.plain}) h.pos (by rw[kN]) (by rw[kN])).congr (Fj:=bF {V with role:=.plain} Im K) λi hi=>by
    by_cases eO:i=0
    ·subst eO;rw[bz];simp[bF]
    ·rw[a_ _ _ eO];simp[bF,eO]
   have ab1:∀i l,i<gs.size->gV (bF {V with role:=.plain} Im K i) l->¬rc p.c p.Wg l:=λi l hi hl=>by
    by_cases eO:i=0
    ·subst eO;have b':ju p (bF {V with role:=.plain} Im K 0):=(by simp only[bF,if_true];exact bV);exact b'.Bd hl
    ·obtain⟨q,e⟩:=tD i hi;have:bF {V with role:=.plain} Im K i=noView:=(by simp only[bF,eO,if_false,e];rfl);rw[this]at hl;exact agK.Bd hl
   refine⟨h1.sat,h1.dN,?_,h1.tape,h1.os,h1.out,h1.old,h1.jo,h1.n0⟩;have wV:=h1.ti.mute (u:=#[y]) (N':=gs.size) (rd':=λi l=>i<gs.size/\gV (bF {V with role:=.plain} Im K i) l/\¬sq none l) (wr':=λi l=>i<gs.size/\jO (bF {V with role:=.plain} Im K i) l/\¬sq none l) (act':=m9 (some p) gs.size ic K) (kH:=ic)
    (λop ay=>(nJ op ay).1) (λop ay=>(nJ op ay).2.2.1) (λop ay=>by rw[(nJ op ay).2.2.2.2];exact h.pos) (SO _) (λop ay=>(nJ op ay).2.2.2.1)
    (λi hi l hl idx a ha gJ hw=>(h1.ti.kr i hi l ⟨hl.1,hl.2.1,ab1 i l hi hl.2.1⟩ idx a ha gJ hw).app _) (λi hi l hl idx a ha gJ=>(h1.ti.kw i hi l ⟨hl.1,hl.2.1,ab1 i l hi hl.2.1.rd⟩ idx a ha gJ).app _)
    (λidx a ha dS=>⟨λhp i hi=>((h1.ti.sp idx a ha dS).1 hp i hi).app _,λhp=>((h1.ti.sp idx a ha dS).2 hp).app _⟩)
   exact wV.weaken (SO _) (λ_ _ _ x=> .inl x) (λ_ _ _ x=>x) (λidx a _ hx=>hx.elim)
  ·have hr:Rest p.Wg t K ic st:=mM;rw[c4]at hr;intro idx a ha hm;have gq:=BJ (λop ay=>(nJ op ay).1) ha;obtain⟨op,ay,_⟩:=U0 gq;rcases hr idx a gq hm with z|⟨z1,z2⟩|⟨s,hs,hx⟩
   ·exact .inl (z.app _)
   ·exact .inr (.inl ⟨z1,λz=>z2 ((Wv (TK ay)).1 z)⟩)
   ·cases hs;exact .inl (ahg m1 m2 hy aX hx)
theorem Inv.anR(h:Inv P n0 W0 V gs w t K Im ic (some p) st)(aH:p.recv=true)(x:SG):Inv P n0 W0 V (gs.setIfInBounds 0 x) w t K Im ic (some p) st:=by
 obtain⟨dl,gZ,mM,gM⟩:=h.out;obtain⟨a1,a2,a3,a4,a5,a6,a7,a8,a9,bT⟩:=gM;have aV:(gs.setIfInBounds 0 x).size=gs.size:=by simp
 rw[if_pos aH]at bT;obtain⟨c1,c2,c3,s,c4,c5⟩:=bT;refine Inv.mk' (by rw[aV];exact h.pos) h.k0 h.d0 (λi z hi hz=> ?_) (by rw[aV];exact gZ) mM ⟨a1,a2,a3,a4,a5,a6,a7,by rw[aV];exact a8,by rw[aV];exact a9,?_⟩
 ·rw[SV (by omega)]at hz;exact dl i z hi hz
 ·rw[if_pos aH];refine⟨c1,c2,by rw[aV];exact c3,s,c4,?_⟩;rw[aV];have e0:t=t++#[]:=by simp
  rw[e0];exact c5.keep (λ_=>rfl) rfl rfl λrT g hg=>by rw[SV (by omega)]at hg;exact rT g hg
end
def MJ (P:SI)(Post:SP->Tp->Prop)(n0:Nat)(W0:Tp)(V:View)(g:SG):Prop:=
 g.status=.running/\∀gs w sl t K Im ic ph st,Inv P n0 W0 V gs w t K Im ic ph st->vU V.role ph->kB gs g->Ok P Post (crowd gs w sl) t
section
variable {P:SI}{Post:SP->Tp->Prop}{n0:Nat}{W0:Tp}
def aeK (P:SI)(Post:SP->Tp->Prop)(gs:Array SG)(w:Tp)(sl:Option (Nat×Nat))(t:Uo):Prop:=
 (∃m' ops,runT P (crowd gs w sl) 0=(.next m',ops)/\Ok P Post m' (t++ops))\/∃o w' ops,runT P (crowd gs w sl) 0=(.ended o w',ops)/\∀w0 EA,W4 P Post (crowd gs w0 EA) o w' (t++ops)
theorem kB.pos{gs:Array SG}{g:SG}(h:kB gs g):∃(i:Nat)(x:SG),gs[i]?=some x/\x.status=.running:=by
 obtain⟨g0,h0,h1,_⟩:=h;exact⟨0,g0,h0,h1⟩
theorem MJ.iN{V:View}{g:SG}(hg:g.status=.running)(own:∀gs w sl t K Im ic ph st,Inv P n0 W0 V gs w t K Im ic ph st->vU V.role ph->kB gs g->aeK P Post gs w sl t):MJ P Post n0 W0 V g:=by
 refine⟨hg,λgs w sl t K Im ic ph st h hr hm=> ?_⟩;generalize hN:gs.size=N;generalize hμ:((λj=>(K j).db),flag gs ic)=μ;induction μ using(abU N).induction generalizing gs w sl t K st with
 |_ μ ih=>
  obtain⟨i,gi,d,oS,aM,bK,aR⟩:=ZZ (P:=P) (w:=w) (sl:=sl) (h.awake (.inl hm)) hm.pos;have hd:=h.draw d;rcases Ul i with rfl|hi
  ·rcases own _ _ oS _ _ _ _ _ _ hd hr hm with⟨m',ops,h1,h2⟩|⟨o,w',ops,h1,h2⟩
   ·exact Ok.step (aR.trans h1) h2
   ·exact Ok.end (aR.trans h1) (h2 w sl)
  ·rcases hd.other (sl:=oS) (.inl hm) hi aM bK with⟨gs',w',ops,K',st',h1,h2,h3,h4,_,h5⟩|⟨p,_,_,jk⟩
   ·have pA:kB gs' g:=by
     cases ph with
     |none=>exact(h4 g 0 (by simp)).1 hm
     |some p=>exact(h4 g p.c (λq hq=>by cases hq;rfl)).1 hm
    exact Ok.step (aR.trans h1) (ih _ (by rw[<- hμ,<- hN];exact h5) gs' w' oS _ K' st' h3 pA (by rw[h2,hN]) rfl)
   ·obtain⟨g0,h0,hs,_⟩:=hm;obtain⟨g1,z,h1,_⟩:=jk;rw[h1]at h0;cases h0;cases hs
theorem MJ.recv{V:View}{g:SG}{c Wg:Nat}{Ss:List (List Spec)}{z:SP}(jl:V.role=.recv c Wg Ss)(gI:V.deaf=0)(hg:g.status=.running)
  (lh:∀w,Sat V w->stepG P true g w=.comm g #[rcase c z] true (.recv true) w #[])
  (J1:∀(i:Nat) sp S v Im Ow,Ss[i]?=some (sp::S)->sp v Im Ow->(∀b,V.own b≠none->Ow b=none)->(∀b o,V.own b≠none->Im b o≠none->V.ab b o≠none)->(∃w,Sat V w/\(∀b o x,Im b o=some x->w.cell? ⟨b,o,none⟩=some x)/\∀b x,Ow b=some x->w.heap[b]?=some x)->
   MJ P Post n0 W0 (nO V Im Ow (.recv c Wg (Ss.set i S))) (T8 g (.tuple #[v,.bool true])))
  (J2:(∀S∈Ss,S=[])->MJ P Post n0 W0 {V with role:=.plain} (T8 g (.tuple #[z,.bool false]))):MJ P Post n0 W0 V g:=by
 have met:∀{gs w sl t K Im ic st i},Inv P n0 W0 V gs w t K Im ic (some ⟨c,Wg,Ss,true⟩) st->Fg P n0 W0 V gs w sl t Im ic ⟨c,Wg,Ss,true⟩ st g i->∀{m},stepT P m=runT P (crowd gs w sl) i->Ok P Post m t:=by
  rintro gs w sl t K Im ic st i _ ⟨gs',w',ops,K',j,sp,S,v,kQ,Ow,h1,h2,h3,h4,h5,h6,h6',h7,h8⟩ m hm
  exact Ok.step (hm.trans h1) ((J1 j sp S v kQ Ow h4 h5 h6 h6' h7).2 gs' w' sl _ K' Im ic _ st h8 rfl h3)
 refine⟨hg,λgs w sl t K Im ic ph st h hr hm=> ?_⟩;have gM:ph=some ⟨c,Wg,Ss,true⟩:=by rw[jl]at hr;exact hr
 subst gM
 suffices key:∀N μ gs w sl t K st,Inv P n0 W0 V gs w t K Im ic (some ⟨c,Wg,Ss,true⟩) st->gs.size=N->((λj=>(K j).db),flag gs ic)=μ->(kB gs g\/(nZ gs g c/\Calm gs/\zL w c))->Ok P Post (crowd gs w sl) t from key _ _ gs w sl t K st h rfl rfl (.inl hm)
 clear h hr hm;intro N μ;induction μ using(abU N).induction with
 |_ μ ih=>
  have A:∀gs w sl t K st,Inv P n0 W0 V gs w t K Im ic (some ⟨c,Wg,Ss,true⟩) st->gs.size=N->((λj=>(K j).db),flag gs ic)=μ->nZ gs g c->Calm gs->zL w c->Ok P Post (crowd gs w sl) t:=by
   intro gs w sl t K st h hN hμ jk tu ho;have rN:kB gs g\/∃p,some (Phase.mk c Wg Ss true)=some p/\p.recv=true/\V.deaf=0/\nZ gs g p.c:=.inr ⟨_,rfl,rfl,gI,jk⟩;have amf:∃(i:Nat)(x:SG),gs[i]?=some x/\x.status=.running:=by
    obtain⟨i,x,_,h1,h2⟩:=h.arl rfl ho tu;exact⟨i,x,h1,h2⟩
   obtain⟨i,gi,d,oS,aM,bK,aR⟩:=ZZ (P:=P) (w:=w) (sl:=sl) (h.awake rN) amf;have hd:=h.draw d;have hi:0<i:=by
    rcases Ul i with rfl|hi
    ·obtain⟨g1,z1,h1,_⟩:=jk;rw[h1]at aM;cases aM;cases bK
    ·exact hi
   rcases hd.other (sl:=oS) rN hi aM bK with⟨gs',w',ops,K',st',h1,h2,h3,h4,h5,h6⟩|⟨p,hp,uU,_⟩
   ·refine Ok.step (aR.trans h1) (ih _ (by rw[<- hμ,<- hN];exact h6) gs' w' oS _ K' st' h3 (by rw[h2,hN]) rfl ?_);rcases(h4 g c (λq hq=>by cases hq;rfl)).2 jk ho with x|⟨x,y⟩
    ·exact .inl x
    ·exact .inr ⟨x,h5 g c jk tu,y⟩
   ·cases hp;exact met hd uU aR
  intro gs w sl t K st h hN hμ pA;rcases pA with hm|⟨h1,h2,h3⟩
  ·obtain⟨i,gi,d,oS,aM,bK,aR⟩:=ZZ (P:=P) (w:=w) (sl:=sl) (h.awake (.inl hm)) hm.pos;have hd:=h.draw d;rcases Ul i with rfl|hi
   ·
    obtain⟨g0,h0,lG,kZ,iS,mK⟩:=hm;have fw:Sat V (w.at d):=(by have:=hd.core.sat 0 h.pos;rwa [kN]at this);have lg:stepG P (0==0) g0 (w.at d)=.comm g #[rcase c z] true (.recv true) (w.at d) #[]:=(by rw[<- lh _ fw];exact Xh kZ iS mK _);have e0:(t++Tc 0 g0.frame.fn g0.frame.place #[])=t:=(by simp[Tc]);rcases hd.opens rfl with⟨n,gL⟩|⟨alv,⟨n,aW⟩,_⟩
    ·by_cases aaM:∃i j h' V₁ V₂ g1 v z1,0<i/\i<gs.size/\K i=.nT j h' V₁ V₂ g1 v z1
     ·exact met hd (hd.aqe (sl:=oS) rfl gI ⟨g0,h0,lG,kZ,iS,mK⟩ (lh _ fw) aaM) aR
     ·have offers:∀m x,0<m->gs[m]?=some x->x.status=.blocked->x.offers=none:=by
       intro m x iV hx hb;rcases GS.runs (show (K m).is P c Wg Im Ss (UY t m) x from h.is m x iV hx)with e|⟨e,_⟩|⟨j,h',V1,V2,g1,v,z1,e⟩|⟨_,_,e⟩
       ·rw[e]at hb;cases hb
       ·rw[e]at hb;cases hb
       ·exact absurd ⟨m,j,h',V1,V2,g1,v,z1,iV,(SR.1 hx).1,e⟩ aaM
       ·exact e
      have hw:=crowd_waits (P:=P) (sl:=oS) (i:=0) h0 lg (λcc jg=>by
       simp only[TM,SK,SZ,or_false]at jg;subst jg;refine ways_recv_none gL (partners_nil λm x hx=> ?_);rcases Yc gs 0 m x hx with⟨_,rfl⟩|⟨iV,jI⟩
       ·exact Zp _ _
       ·by_cases hb:x.status=.blocked
        ·unfold offersAt;simp[hb,offers m x (by omega) jI hb]
        ·exact U1 hb _ _)
      refine Ok.step (aR.trans hw) ?_;rw[e0];refine A _ (w.at d) oS t K st (hd.anR rfl _) (by simp[hN]) ?_ ⟨g,z,?_,rfl,rfl,rfl⟩ (λm x iV hx hb=> ?_) ⟨n,gL⟩
      ·rw[<- hμ];have fU:0<ic:=(by obtain⟨_,_,x,_⟩:=h.mode rfl;exact x);unfold flag;rw[SV (by omega)]
      ·rw[Tb h.pos]
      ·rw[SV (by omega)]at hx;exact offers m x iV hx hb
    ·have hp:partners (gs.setIfInBounds 0 ph) c true=[]:=partners_nil λm x hx=>by
      rcases Yc gs 0 m x hx with⟨_,rfl⟩|⟨iV,jI⟩
      ·exact Zp _ _
      ·have hlt:m<gs.size:=(SR.1 jI).1;rcases GS.runs (show (K m).is P c Wg Im Ss (UY t m) x from h.is m x (by omega) jI)with e|⟨e,_⟩|⟨j,h',V1,V2,g1,v,z1,e⟩|⟨_,eb,e⟩
       ·exact U1 (by rw[e];simp) _ _
       ·exact U1 (by rw[e];simp) _ _
       ·have:=alv m (by omega) hlt;rw[e]at this;cases this
       ·unfold offersAt;simp[eb,e]
     have hw:=crowd_recv_closed (P:=P) (sl:=oS) (i:=0) h0 lg aW hp;refine Ok.step (aR.trans hw) ?_;rw[YA,<- Xv,e0];obtain⟨hS,hinv⟩:=hd.arh rfl gI (g0:=g0) (g':=T8 g (recvd true z false)) aW (y:={g:=0,fn:=g.frame.fn,pos:=g.frame.place,act:=.recvClosed c}) ⟨rfl,rfl⟩;exact(J2 hS).2 _ (w.at d) oS _ K Im ic none none hinv rfl ⟨T8 g (recvd true z false),by rw[Tb h.pos],rfl,rfl,rfl,rfl⟩
   ·rcases hd.other (sl:=oS) (.inl hm) hi aM bK with⟨gs',w',ops,K',st',h1,h2,h3,h4,_,h5⟩|⟨p,_,_,jk⟩
    ·exact Ok.step (aR.trans h1) (ih _ (by rw[<- hμ,<- hN];exact h5) gs' w' oS _ K' st' h3 (by rw[h2,hN]) rfl (.inl ((h4 g c (λq hq=>by cases hq;rfl)).1 hm)))
    ·obtain⟨g0,h0,hs,_⟩:=hm;obtain⟨g1,z1,h1,_⟩:=jk;rw[h1]at h0;cases h0;cases hs
  ·exact A gs w sl t K st h hN hμ h1 h2 h3
theorem an7:Closed true P true (MJ P Post n0 W0)where
 step V g hs h:=by
  refine MJ.iN hs λgs w sl t K Im ic ph st hI hr ⟨g0,h0,lG,kZ,iS,mK⟩=> .inl ?_;have fw:Sat V w:=by have:=hI.core.sat 0 hI.pos;rwa [kN]at this
  obtain⟨g',w',es,V',h1,h2,h3⟩:=h w fw;have aR:stepG P (0==0) g0 w=.go g' w' es:=by rw[<- h1];exact Xh kZ iS mK w
  refine⟨_,_,runT_crowd_go h0 aR,h3.2 _ w' sl _ K Im ic ph st (hI.abM h0 h2 hr) (by rw[h2.role];exact hr) ⟨g',?_,h3.1,rfl,rfl,rfl⟩⟩;rw[Tb (by simpa using hI.pos)]
 ghost V V' g hg h:=⟨h.1,λgs w sl t K Im ic ph st hI hr hm=>h.2 gs w sl t K Im ic ph st (hI.anQ hg hr) (by rw[hg.role];exact hr) hm⟩
 send V g c Wg sp S v z B hr hd hs ho h1 h2 h3:=⟨hs,λgs w sl t K Im ic ph st hI ce hm=>by rw[hr]at ce;exact ce.elim⟩
 done V g c Wg hr hd h1:=⟨h1.1,λgs w sl t K Im ic ph st hI ce hm=>by rw[hr]at ce;exact ce.elim⟩
 slip V g g' c Wg hr hs h1 h2:=⟨hs,λgs w sl t K Im ic ph st hI ce hm=>by rw[hr]at ce;exact ce.elim⟩
 more _:={
  start:=λV g c Wg hr aF hc hW oy h=>⟨h.1,λgs w sl t K Im ic ph st hI ce hm=>by
   rw[hr]at ce;cases ce;exact h.2 gs w sl t _ Im 0 _ _ (hI.begin aF hc hW oy) rfl hm⟩
  F1:=λV g g' child c Wg Ss sp S hr hd hs hc hW hlen oy aR eS MA h=>by
   refine MJ.iN hs λgs w sl t K Im ic ph st hI ce ⟨g0,h0,lG,kZ,iS,mK⟩=> .inl ?_;rw[hr]at ce;cases ce;have fw:Sat V w:=(by have:=hI.core.sat 0 hI.pos;rwa [kN]at this);have lM:stepG P (0==0) g0 w=.spawn g' child w #[]:=(by rw[<- aR w fw];exact Xh kZ iS mK w);obtain⟨hh,hk⟩:=MA _ (as7 P);have bK:=ac_ (P:=P) (sl:=sl) h0 lM;have e0:Tc 0 g0.frame.fn g0.frame.place #[]=#[]:=rfl;rw[e0]at bK;have hinv:=hI.F1 (g':=g') (x:={g:=0,fn:=g0.frame.fn,pos:=g0.frame.place,act:=.go gs.size}) (y:={g:=gs.size,fn:=child.frame.fn,pos:=g0.frame.place,act:=.start}) rfl hd ⟨rfl,rfl⟩ ⟨rfl,rfl⟩ hlen oy hk;exact⟨_,_,bK,h.2 _ w sl _ _ Im ic _ _ hinv rfl ⟨g',by rw[Xl,if_neg (by simp;have:=hI.pos;omega),Tb hI.pos],h.1,rfl,rfl,rfl⟩⟩
  F0:=λV g g' child c Wg Ss hr hd hs aF hc hW AE oy aR eS aW h=>by
   refine MJ.iN hs λgs w sl t K Im ic ph st hI ce ⟨g0,h0,lG,kZ,iS,mK⟩=> .inl ?_;rw[hr]at ce;cases ce;have fw:Sat V w:=(by have:=hI.core.sat 0 hI.pos;rwa [kN]at this);have lM:stepG P (0==0) g0 w=.spawn g' child w #[]:=(by rw[<- aR w fw];exact Xh kZ iS mK w);obtain⟨n,hk⟩:=aW;have bK:=ac_ (P:=P) (sl:=sl) h0 lM;have e0:Tc 0 g0.frame.fn g0.frame.place #[]=#[]:=rfl;rw[e0]at bK;have hinv:=hI.F0 (g':=g') (x:={g:=0,fn:=g0.frame.fn,pos:=g0.frame.place,act:=.go gs.size}) (y:={g:=gs.size,fn:=child.frame.fn,pos:=g0.frame.place,act:=.start}) rfl hd ⟨rfl,rfl⟩ ⟨rfl,rfl⟩ hW oy hk;exact⟨_,_,bK,h.2 _ w sl _ _ V.ab gs.size _ _ hinv rfl ⟨g',by rw[Xl,if_neg (by simp;have:=hI.pos;omega),Tb hI.pos],h.1,rfl,rfl,rfl⟩⟩
  recv:=λV g c Wg Ss z hr hd hs ho aR j1 j2=>MJ.recv hr hd hs aR j1 j2}
structure Left (n0:Nat)(W0 w:Tp):Prop where
 tape:w.tape=W0.tape
 os:w.os=W0.os
 out:w.output=W0.output
 old:∀b,b<n0->w.heap[b]?=W0.heap[b]?
 size:n0<=w.heap.size
theorem Inv.Ky{V:View}{gs:Array SG}{w:Tp}{t:Uo}{K:Nat->GS}{Im:cx}{ic:Nat}{st:Option ej}(h:Inv P n0 W0 V gs w t K Im ic none st){v:SP}(hp:Post v w)(w0:Tp)(EA:Option (Nat×Nat)):W4 P Post (crowd gs w0 EA) (.done v) w t:=by
 obtain⟨dl,gZ,mM,aR⟩:=h.out;have lM:st=none:=aR;refine⟨v,rfl,hp,gZ.ti.nr,?_,⟨?_,rfl⟩,?_⟩
 ·intro i g hg lG ⟨x,hx,hm,hk⟩;rcases mM i x hx hm with⟨q,z,h1,h2,h3⟩|⟨h1,h2⟩|⟨_,h1,_⟩
  ·rcases h3 with rfl|h3
   ·exfalso;simp only[WF,h1,UT,Tm]at hg;omega
   ·exact⟨q,by simp[WF,h1,h2],h3⟩
  ·rcases hk with hk|hk
   ·exact absurd h1 hk
   ·exact absurd hk h2
  ·rw[lM]at h1;cases h1
 ·intro g hg;obtain⟨i,hi⟩:=UV.1 hg;rw[Up]at hi;have cC:gs[1+i]?=some g:=by simpa[crowd]using hi
  obtain⟨q,_,hq⟩:=dl (1+i) g (by omega) cC;exact⟨q,hq.leaves⟩
 ·intro i g hi eO;obtain⟨q,_,hq⟩:=dl i g (by omega) hi;exact⟨q,hq.hears _⟩
theorem MJ.end{V:View}{g:SG}(hg:g.status=.running)(hr:V.role=.plain)
  (h:∀w,Sat V w->Left n0 W0 w->(∀b,b<n0->V.own b=none)->∃v w' es V',stepG P true g w=.ended (.done v) w' es/\dh V w V' w' es/\Post v w'):MJ P Post n0 W0 V g:=by
 refine MJ.iN hg λgs w sl t K Im ic ph st hI ce ⟨g0,h0,lG,kZ,iS,mK⟩=> .inr ?_;have gZ:=hI.out.2.1;have fw:Sat V w:=by have:=hI.core.sat 0 hI.pos;rwa [kN]at this
 obtain⟨v,w',es,V',h1,h2,h3⟩:=h w fw ⟨gZ.tape,gZ.os,gZ.out,gZ.old,gZ.n0⟩ (λb hb=>by have:=gZ.jo 0 hI.pos b hb;rwa [kN]at this);have aR:stepG P (0==0) g0 w=.ended (.done v) w' es:=by rw[<- h1];exact Xh kZ iS mK w
 refine⟨_,w',_,runT_crowd_ended h0 aR,λw0 EA=> ?_⟩;have gM:ph=none:=by rw[hr]at ce;exact ce
 subst gM;have hinv:=hI.abM (g':=g0) h0 h2 ce;have tC:=hinv.Ky (Post:=Post) h3 w0 EA;obtain⟨v',e,hp,hn,hh,hl,hd⟩:=tC;refine⟨v',e,hp,hn,hh,⟨?_,rfl⟩,?_⟩
 ·intro g Lq;obtain⟨i,hi⟩:=UV.1 Lq;rw[Up]at hi;have cC:gs[1+i]?=some g:=by simpa[crowd]using hi
  obtain⟨q,_,hq⟩:=hI.out.1 (1+i) g (by omega) cC;exact⟨q,hq.leaves⟩
 ·intro i g hi eO;obtain⟨q,_,hq⟩:=hI.out.1 i g (by omega) hi;refine⟨q,?_⟩;have:(t++Tc 0 g0.frame.fn g0.frame.place es).deaf i (t++Tc 0 g0.frame.fn g0.frame.place es).size=UY t i:=
   au2 t (g:=i) (g':=0) (by omega) _ λop ay=>by obtain⟨e,_,rfl⟩:=TO ay;rfl
  rw[this];exact hq.hears _
theorem Inv.init(W:Tp){V:View}(ho:V.own=λ_=>none)(hd:V.deaf=0)(hs:Sat V W)(g:SG):Inv P W.heap.size W V #[g] W #[] (λ_=> .gone 0) V.ab 0 none none:=by
 have fu:∀i,i<(1:Nat)->bF V V.ab (λ_=> .gone 0) i=V:=λi hi=>by
  obtain rfl:i=0:=by omega
  simp[bF]
 refine Inv.mk' (by simp) rfl (by rw[hd];rfl) (λi x hi hx=> ?_) ⟨λi hi=>by rw[fu i hi];exact hs,λi j hi hj ko=> ?_,?_,rfl,rfl,rfl,λ_ _=>rfl,λi hi b _=>by rw[fu i hi,ho],SO _⟩ ?_ rfl
 ·exfalso;have:=(SR.1 hx).1;simp at this;omega
 ·simp at hi hj;omega
 ·refine⟨λsaid hr=> ?_,by simp,by simp,by simp,λi _ l _ idx a ha=> ?_,λi _ l _ idx a ha=> ?_,λidx a ha=> ?_⟩
  ·obtain⟨i,j,_,⟨a,b,ha,_⟩,_⟩:=hr;obtain⟨op,ay,_⟩:=U0 ha;simp at ay
  ·obtain⟨op,ay,_⟩:=U0 ha;simp at ay
  ·obtain⟨op,ay,_⟩:=U0 ha;simp at ay
  ·obtain⟨op,ay,_⟩:=U0 ha;simp at ay
 ·intro idx a ha _;obtain⟨op,ay,_⟩:=U0 ha;simp at ay
theorem akf{f:TQ}{args:Array SP}{W:Tp}{V:View}{R:Out->View->Prop}(hi:P.inits.idxOf? f=none)(ho:V.own=λ_=>none)(hd:V.deaf=0)(ce:V.role=.plain)(hs:Sat V W)(h:Body true P f args .normal V R)
  (hR:∀o V',R o V'->V'.role=.plain/\∃v,o=.ret v/\∀w,Sat V' w->Left W.heap.size W w->Post v w):
  ∃M last o w' t',runNT P (M+1) (solo (G (Frame.enter P f args .normal) []) W) #[]=(.ended o w',t')/\runN P M (solo (G (Frame.enter P f args .normal) []) W)=.next last/\step P last=.ended o w'/\W4 P Post last o w' t':=by
 have hJ:MJ P Post W.heap.size W V (G (Frame.enter P f args .normal) []):=by
  refine h true _ an7 [] λo V' fr r hl=> ?_;obtain⟨hr,v,rfl,hp⟩:=hR _ _ r;obtain⟨rfl,bA,hk,fn,hf,hm,gA⟩:=hl;refine MJ.end rfl hr λw hw AM hold=> ?_;obtain⟨es,w',aS,h1,h2,h3⟩:=gA.runs hw;rcases h3 with⟨x,h3,rfl,rfl⟩|⟨_,_,hx⟩
  ·refine⟨x,w',seen P fr.fn es,aS,by simp[G,stepG,unwind,doReturn,hm,bA,hk,hf,h3,h2,T6,hi],h1.seen P fr.fn,?_⟩;refine hp w' h1.sat ⟨h1.tape.trans AM.tape,h1.os.trans AM.os,h1.output.trans AM.out,λb hb=> ?_,UH AM.size h1.size⟩;rw[h1.frame b (Tf hb AM.size) (hold b hb)];exact AM.old b hb
  ·exact hx.elim
 exact hJ.2 #[_] W none #[] _ _ _ none none (Inv.init W ho hd hs _) (by rw[ce];rfl) ⟨_,rfl,rfl,rfl,rfl,rfl⟩
end
def gB (P:SI)(main:Bool)(g:SG):SG:=match stepG P main g default with
 |.go g' _ _=>g'
 |_=>g
def Be (P:SI)(main:Bool)(g:SG):Array Ut:=match stepG P main g default with
 |.go _ _ es=>es
 |_=>#[]
def cE (P:SI)(main:Bool):Nat->SG->SG
 |0,g=>g
 |n+1,g=>cE P main n (gB P main g)
def fK (P:SI)(main:Bool)(w:Tp):Nat->SG->List ZG
 |0,_=>[]
 |n+1,g=>stepG P main g w::fK P main w n (gB P main g)
def fB (P:SI)(main:Bool)(w:Tp):Nat->SG->List ZG
 |0,_=>[]
 |n+1,g=> .go (gB P main g) w (Be P main g)::fB P main w n (gB P main g)
def bQ (g:SG):Bool:=match g.status with
 |.running=>true
 |_=>false
theorem bQ.out{g:SG}(h:bQ g=true):g.status=.running:=by
 unfold bQ at h;split at h
 ·assumption
 ·cases h
def iY (P:SI)(main:Bool):Nat->SG->Bool
 |0,_=>true
 |n+1,g=>bQ g&&(Be P main g).all WK&&iY P main n (gB P main g)
def oN (P:SI)(main:Bool):Nat->SG->Bool
 |0,_=>true
 |n+1,g=>bQ g&&(Be P main g).isEmpty&&oN P main n (gB P main g)
def jS (P:SI)(main:Bool):Nat->Nat->SG->Nat
 |0,d,_=>d
 |n+1,d,g=>jS P main n (deafBehind d (Be P main g)) (gB P main g)
section
variable {P:SI}
theorem Ns{n:Nat}{main:Bool}{g:SG}(h:iY P main (n+1) g=true):g.status=.running/\(∀e∈Be P main g,WK e=true)/\iY P main n (gB P main g)=true:=by
 simp only[iY,Tl]at h;exact⟨bQ.out h.1.1,λe he=>UM.1 h.1.2 e he,h.2⟩
theorem xk{Stop:Nat->SG->Prop}:∀(n d:Nat)(g:SG),(∀w,fK P false w n g=fB P false w n g)->iY P false n g=true->(∃m,cU P Stop m (jS P false n d g) (cE P false n g))->∃m,cU P Stop m d g
 |0,d,g,_,_,hs=>hs
 |n+1,d,g,h,hm,hs=>by
  obtain⟨h1,h2,h3⟩:=Ns hm;obtain⟨m,hm⟩:=xk n _ (gB P false g) (λw=>(VB (h w)).2) h3 hs;exact⟨m+1,.inr ⟨h1,_,_,h2,λw=>(VB (h w)).1,hm⟩⟩
theorem ads{Wg:Nat}{Stop:Nat->SG->Prop}:∀(n d:Nat)(g:SG),(∀w,fK P false w n g=fB P false w n g)->iY P false n g=true->(∃m,ij P Wg Stop m (jS P false n d g) (cE P false n g))->∃m,ij P Wg Stop m d g
 |0,d,g,_,_,hs=>hs
 |n+1,d,g,h,hm,hs=>by
  obtain⟨h1,h2,h3⟩:=Ns hm;obtain⟨m,hm⟩:=ads n _ (gB P false g) (λw=>(VB (h w)).2) h3 hs;exact⟨m+1,.inr ⟨h1,_,_,h2,λw _ _ _=>(VB (h w)).1,hm⟩⟩
theorem adt{Wg:Nat}{Stop:Nat->SG->Prop}{d:Nat}{g g':SG}(hr:g.status=.running)(h:∀w x y,WgAt P Wg w x y->stepG P false g w=.go g' w #[]) (hs:∃m,ij P Wg Stop m d g'):∃m,ij P Wg Stop m d g:=by
 obtain⟨m,hm⟩:=hs;exact⟨m+1,.inr ⟨hr,g',#[],by simp,h,by simpa[deafBehind]using hm⟩⟩
theorem HZ:∀(n d:Nat)(g:SG),(∀w,fK P false w n g=fB P false w n g)->iY P false n g=true->(∃q,Y9 P q (jS P false n d g) (cE P false n g))->∃q,Y9 P q d g
 |0,d,g,_,_,hs=>hs
 |n+1,d,g,h,hm,hs=>by
  obtain⟨h1,h2,h3⟩:=Ns hm;obtain⟨m,hm⟩:=HZ n _ (gB P false g) (λw=>(VB (h w)).2) h3 hs;exact⟨m+1,.inr ⟨h1,_,_,h2,λw=>(VB (h w)).1,hm⟩⟩
theorem N8{d:Nat}{g:SG}(h:g.status=.finished)(hd:d=0):∃q,Y9 P q d g:=⟨0,h,hd⟩
theorem aqa{n:Nat}{main:Bool}{g:SG}(h:oN P main (n+1) g=true):g.status=.running/\Be P main g=#[]/\oN P main n (gB P main g)=true:=by
 simp only[oN,Tl]at h;exact⟨bQ.out h.1.1,by simpa using h.1.2,h.2⟩
theorem tT{lv main:Bool}{J:View->SG->Prop}(C:Closed lv P main J){V:View}:∀(n:Nat)(g:SG),(∀w,fK P main w n g=fB P main w n g)->oN P main n g=true->J V (cE P main n g)->J V g
 |0,g,_,_,hs=>hs
 |n+1,g,h,hm,hs=>by
  obtain⟨h1,h2,h3⟩:=aqa hm;refine C.idle h1 (λw=> ?_) (tT C n (gB P main g) (λw=>(VB (h w)).2) h3 hs);rw[(VB (h w)).1,h2]
theorem Closed.mute{lv main:Bool}{J:View->SG->Prop}(C:Closed lv P main J){V:View}{g g':SG}{m:Mark}(hm:m=.disable\/m=.enable)(hr:g.status=.running)(h:∀w,stepG P main g w=.go g' w #[⟨.mark m,false,true⟩]) (hJ:J {V with deaf:=deafBehind V.deaf #[⟨.mark m,false,true⟩]} g'):J V g:=by
 refine C.step _ _ hr λw hw=> ?_;have hs:=aq0 (P:=P) (V:=V) (k:=(.pure ():Sem Unit)) (K:=λ_ V'=>V'={V with deaf:=deafBehind V.deaf #[⟨.mark m,false,true⟩]}) (Kp:=λ_ _=>False) hm (cI rfl);obtain⟨es,w',V',k1,k2,k3⟩:=hs.runs hw;rcases k3 with⟨x,k3,rfl⟩|⟨_,_,hx⟩
 ·have e1:Yk () w=Yk x w':=k3;have e2:es=#[⟨.mark m,false,true⟩]:=k2.symm;cases e1;subst e2;refine⟨g',w,_,_,h w,?_,hJ⟩;rwa [tV (by rcases hm with rfl|rfl<;>simp)]at k1
 ·exact hx.elim
def ready (g:SG):Option Tu:=match g with
 |{frame:={fn:=_,tmps,todo:=.inRegion ops (i::_)::_,defers:=_,mode:=.run,kind,roundOf:=none},callers:=_,status:=.running,dying:=none,offers:=none}=>
  match ops[i]?with
  |some o=>if Ti o (yielded ops tmps)&& !(kind== .early)then some o else none
  |none=>none
 |_=>none
def fin (g:SG)(v:SP):SG:={g with frame:=g.frame.finish v}
theorem ready.out{g:SG}{o:Tu}(h:ready g=some o):∃(b:Uc)(a:Act)(ops:Array Tu)(i:Nat)(rest:List Nat)(k:List WZ)(cs:List Uc),g=G (b.at a (.inRegion ops (i::rest)::k)) cs/\ops[i]?=some o/\Ti o (yielded ops a.tmps)=true/\b.kind≠ .early/\a.eval=g.frame.eval/\
  (∀v,G (b.at (a.put o.dst v) (.inRegion ops rest::k)) cs=fin g v)/\b.fn=g.frame.fn/\g.status=.running:=by
 unfold ready at h;split at h
 ·rename_i fn tmps ops i rest k defers kind cs;split at h
  ·rename_i o' ho;split at h
   ·rename_i hw;cases h;simp only[Tl,T1,beq_eq_false_iff_ne,ne_eq]at hw;refine⟨{(default:Uc)with fn,kind},⟨tmps,defers⟩,ops,i,rest,k,cs,rfl,ho,hw.1,hw.2,?_,λv=> ?_,rfl,rfl⟩
    ·funext x;cases x<;>rfl
    ·unfold fin;have:=Frame.finish_at {(default:Uc)with fn,kind} ⟨tmps,defers⟩ ops i rest k v;rw[ho]at this;simp only[Frame.at,Option.bind_some]at this⊢;rw[this];rfl
   ·cases h
  ·cases h
 ·cases h
def cq (g:SG):Option (TQ×Array SP):=match ready g with
 |some {op:=.call {callee:=.value (.func f),args, .. }, .. }=>some (f,args.map g.frame.eval)
 |_=>none
theorem cq.out{g:SG}{f:TQ}{vs:Array SP}(h:cq g=some (f,vs)):∃o aE l5,ready g=some o/\o.op=.call {callee:=.value (.func f),args:=aE,argTypes:=l5}/\aE.map g.frame.eval=vs:=by
 unfold cq at h;split at h
 ·rename_i f' aE l5 dst ty pos af gd ho;cases h;exact⟨_,_,_,ho,rfl,rfl⟩
 ·cases h
structure Ext (P:SI)(f:TQ)(e:Array SP->Sem SP):Prop where
 fn : ∃ fn, P.funcs[f]? = some fn /\ (fn.name == "runtime.NumGoroutine") = false /\ fn.body.isNone = true /\ Extern.findNext fn = none /\ Extern.find fn = some e
variable {main:Bool}{g:SG}{f:TQ}{w:Tp}
theorem adw{v d:Int}{k:TZ}{ad:U_}(h:cq g=some (f,#[.pointer (some ad),.int k d])) (he:Ext P f (XU (au9 .add) k true)) (hc:w.cell? ad=some (.int k v)) (hz:w.frozen? ad=false):
  stepG P main g w=.go (fin g (.int k (k.wrap (v+d)))) (w.setCell ad (.int k (k.wrap (v+d)))) #[⟨.cell ad,false,true⟩,⟨.cell ad,true,true⟩]:=by
 obtain⟨o,aE,l5,h1,h2,h3⟩:=cq.out h;obtain⟨b,a,ops,i,rest,kk,cs,e,q1,q2,q3,q4,q5,q6,_⟩:=ready.out h1;obtain⟨fn,f1,f2,f3,f4,f5⟩:=he.fn;rw[<- q4]at h3;rw[<- q5];refine VM (congrArg (λx=>stepG P main x w) e) ?_;exact ZH q1 q2 q3 h2 f1 f2 f3 f4 f5 (by rw[h3];exact run_add_entry hc hz) (by rw[h3,events_add_entry hc hz];rfl) (sync_rw ad)
theorem Oq{v:Int}{k:TZ}{ad:U_}(h:cq g=some (f,#[.pointer (some ad)])) (he:Ext P f (X5 (.int k))) (hc:w.cell? ad=some (.int k v)):
  stepG P main g w=.go (fin g (.int k v)) w #[⟨.cell ad,false,true⟩]:=by
 obtain⟨o,aE,l5,h1,h2,h3⟩:=cq.out h;obtain⟨b,a,ops,i,rest,kk,cs,e,q1,q2,q3,q4,q5,q6,_⟩:=ready.out h1;obtain⟨fn,f1,f2,f3,f4,f5⟩:=he.fn;rw[<- q4]at h3;rw[<- q5];refine VM (congrArg (λx=>stepG P main x w) e) ?_;obtain⟨x,rfl⟩:∃x,aE=#[x]:=by
  have:aE.size=1:=by have:=congrArg ad' h3;simpa using this
  exact Array.size_eq_one_iff.1 this
 exact stepG_load_atomic q1 q2 q3 h2 f1 f2 f3 f4 k f5 (by simpa using h3) hc
theorem arD{v:Int}{u:SP}{k:TZ}{ad:U_}(h:cq g=some (f,#[.pointer (some ad),.int k v])) (he:Ext P f XV) (hc:w.cell? ad=some u) (hz:w.frozen? ad=false):
  stepG P main g w=.go (fin g (.tuple #[])) (w.setCell ad (.int k v)) #[⟨.cell ad,true,true⟩]:=by
 obtain⟨o,aE,l5,h1,h2,h3⟩:=cq.out h;obtain⟨b,a,ops,i,rest,kk,cs,e,q1,q2,q3,q4,q5,q6,_⟩:=ready.out h1;obtain⟨fn,f1,f2,f3,f4,f5⟩:=he.fn;rw[<- q4]at h3;rw[<- q5];refine VM (congrArg (λx=>stepG P main x w) e) ?_;obtain⟨x,y,rfl⟩:∃x y,aE=#[x,y]:=by
  have:aE.toList.length=2:=by have:=congrArg ad' h3;simpa using this
  obtain⟨l⟩:=aE
  match l,this with
  |[x,y],_=>exact⟨x,y,rfl⟩
 have wn:a.eval x=.pointer (some ad)/\a.eval y=.int k v:=by simpa using h3
 exact stepG_store_atomic q1 q2 q3 h2 f1 f2 f3 f4 f5 wn.1 wn.2 hc hz
theorem arw{v n:Int}{k:TZ}{ad:U_}(h:cq g=some (f,#[.pointer (some ad),.int k v,.int k n])) (he:Ext P f (W1 (.int k))) (hc:w.cell? ad=some (.int k v)) (hz:w.frozen? ad=false):
  stepG P main g w=.go (fin g (.bool true)) (w.setCell ad (.int k n)) #[⟨.cell ad,false,true⟩,⟨.cell ad,true,true⟩]:=by
 obtain⟨o,aE,l5,h1,h2,h3⟩:=cq.out h;obtain⟨b,a,ops,i,rest,kk,cs,e,q1,q2,q3,q4,q5,q6,_⟩:=ready.out h1;obtain⟨fn,f1,f2,f3,f4,f5⟩:=he.fn;rw[<- q4]at h3;rw[<- q5];refine VM (congrArg (λx=>stepG P main x w) e) ?_;exact ZH q1 q2 q3 h2 f1 f2 f3 f4 f5 (by rw[h3,Z5];exact run_cas_hit_entry hc hz) (by rw[h3,Z5,events_cas_hit_entry hc hz];rfl) (sync_rw ad)
theorem arx{v old n:Int}{k:TZ}{ad:U_}(h:cq g=some (f,#[.pointer (some ad),.int k old,.int k n])) (he:Ext P f (W1 (.int k))) (hc:w.cell? ad=some (.int k v)) (hz:w.frozen? ad=false) (aF:¬v=old):
  stepG P main g w=.go (fin g (.bool false)) w #[⟨.cell ad,false,true⟩]:=by
 obtain⟨o,aE,l5,h1,h2,h3⟩:=cq.out h;obtain⟨b,a,ops,i,rest,kk,cs,e,q1,q2,q3,q4,q5,q6,_⟩:=ready.out h1;obtain⟨fn,f1,f2,f3,f4,f5⟩:=he.fn;rw[<- q4]at h3;rw[<- q5];refine VM (congrArg (λx=>stepG P main x w) e) ?_;exact ZH q1 q2 q3 h2 f1 f2 f3 f4 f5 (by rw[h3,Z5];exact run_cas_miss_entry hc hz aF) (by rw[h3,Z5,events_cas_miss_entry hc hz aF];rfl) (sync_r ad)
theorem arB{n:Int}{x y:SP}{ad:U_}(h:cq g=some (f,#[.pointer (some ad),x,y])) (he:Ext P f XT) (hc:w.cell? ad=some (.int .u32 n)) (hz:w.frozen? ad=false):
  stepG P main g w=.go (fin g (.tuple #[])) (w.setCell ad (.int .u32 (ak_.wrap (n+1)))) (semEvents ad):=by
 obtain⟨o,aE,l5,h1,h2,h3⟩:=cq.out h;obtain⟨b,a,ops,i,rest,kk,cs,e,q1,q2,q3,q4,q5,q6,_⟩:=ready.out h1;obtain⟨fn,f1,f2,f3,f4,f5⟩:=he.fn;rw[<- q4]at h3;rw[<- q5];refine VM (congrArg (λx=>stepG P main x w) e) ?_;exact stepG_semrelease q1 q2 q3 h2 f1 f2 f3 f4 f5 (by rw[h3];rfl) hc hz
theorem arA{n:Int}{x:SP}{ad:U_}(h:cq g=some (f,#[.pointer (some ad),x])) (he:Ext P f WJ) (hc:w.cell? ad=some (.int .u32 n)) (hn:n≠0) (hz:w.frozen? ad=false):
  stepG P main g w=.go (fin g (.tuple #[])) (w.setCell ad (.int .u32 (n-1))) (semEvents ad):=by
 obtain⟨o,aE,l5,h1,h2,h3⟩:=cq.out h;obtain⟨b,a,ops,i,rest,kk,cs,e,q1,q2,q3,q4,q5,q6,_⟩:=ready.out h1;obtain⟨fn,f1,f2,f3,f4,f5⟩:=he.fn;rw[<- q4]at h3;rw[<- q5];refine VM (congrArg (λx=>stepG P main x w) e) ?_;exact stepG_semacquire q1 q2 q3 h2 f1 f2 f3 f4 f5 (by rw[h3];rfl) hc hn hz
theorem arC{x:SP}{ad:U_}(h:cq g=some (f,#[.pointer (some ad),x])) (he:Ext P f WJ) (hc:w.cell? ad=some (.int .u32 0)):
  stepG P main g w=.go {g with status:=.blocked} w #[]:=by
 obtain⟨o,aE,l5,h1,h2,h3⟩:=cq.out h;obtain⟨b,a,ops,i,rest,kk,cs,e,q1,q2,q3,q4,q5,q6,_⟩:=ready.out h1;obtain⟨fn,f1,f2,f3,f4,f5⟩:=he.fn;rw[<- q4]at h3;rw[e];exact stepG_semacquire_wait q1 q2 h2 f1 f2 f3 f4 f5 (by rw[h3];rfl) hc
theorem Ii{ad:U_}(mk:U_->Mark)(hm:∀ad g,mk ad≠ .extern g)(h:cq g=some (f,#[.pointer (some ad)])) (he:Ext P f (VK mk)):
  stepG P main g w=.go (fin g (.tuple #[])) w #[⟨.mark (mk ad),false,true⟩]:=by
 obtain⟨o,aE,l5,h1,h2,h3⟩:=cq.out h;obtain⟨b,a,ops,i,rest,kk,cs,e,q1,q2,q3,q4,q5,q6,_⟩:=ready.out h1;obtain⟨fn,f1,f2,f3,f4,f5⟩:=he.fn;rw[<- q4]at h3;rw[<- q5];refine VM (congrArg (λx=>stepG P main x w) e) ?_;exact stepG_markAt mk hm q1 q2 q3 h2 f1 f2 f3 f4 f5 (by rw[h3];rfl)
def pc (g:SG):Option (TypeId×TypeId×SP):=match ready g with
 |some {op:=.convert s d x, .. }=>some (s,d,g.frame.eval x)
 |_=>none
theorem Ij{src dst t:TypeId}{ad:U_}{v:SP}(h:pc g=some (src,dst,.pointer (some ad)))(hs:P.underlying src=some (.pointer t))(hd:P.underlying dst=some .unsafePointer)(aV:(P.info? t).map (λi=>decide (i.size=0))=some false)(hc:w.cell? ad=some v):
  stepG P main g w=.go (fin g (.pointer (some ad))) w #[]:=by
 obtain⟨o,x,h1,h2,h3⟩:∃o x,ready g=some o/\o.op=.convert src dst x/\g.frame.eval x=.pointer (some ad):=by
  unfold pc at h;split at h
  ·rename_i s d x _ _ _ _ ho;simp only[Tm,U7]at h;obtain⟨rfl,rfl,h⟩:=h;exact⟨_,x,ho,rfl,h⟩
  ·cases h
 obtain⟨b,a,ops,i,rest,kk,cs,e,q1,q2,q3,q4,q5,q6,_⟩:=ready.out h1;rw[<- q4]at h3;rw[<- q5];refine VM (congrArg (λx=>stepG P main x w) e) ?_;have hr:(execOp a.eval o).run P w=.ok (.value (.pointer (some ad))) w:=by
  unfold execOp;simp only[h2,h3];simp[run_convert_to_unsafe hs hd aV hc]
 have cr:(execOp a.eval o).events P w #[]=#[]:=by
  unfold execOp;simp only[h2,h3];simp[events_convert_to_unsafe hs hd aV hc]
 rw[au1 q1 q2 q3 hr];unfold listed;rw[cr,ab']
end
open Go.Proofs
section
variable {P:SI}
theorem Ol{Stop:Nat->SG->Prop}{d:Nat}{g g':SG}{es:Array Ut}(hr:g.status=.running)(hm:∀e∈es,WK e=true)(h:∀w,stepG P false g w=.go g' w es)(hs:∃m,cU P Stop m (deafBehind d es) g'):∃m,cU P Stop m d g:=by
 obtain⟨m,hs⟩:=hs;exact⟨m+1,.inr ⟨hr,g',es,hm,h,hs⟩⟩
theorem Ih{main:Bool}{g:SG}{f:TQ}{w:Tp}{m:Mark}(hm:∀g,m≠ .extern g)(h:cq g=some (f,#[])) (he:Ext P f (λ_=>do af' m;pure Xa)):stepG P main g w=.go (fin g (.tuple #[])) w #[⟨.mark m,false,true⟩]:=by
 obtain⟨o,xs,l5,h1,h2,h3⟩:=cq.out h;obtain⟨b,a,ops,i,rest,kk,cs,e,q1,q2,q3,q4,q5,q6,_⟩:=ready.out h1;obtain⟨fn,f1,f2,f3,f4,f5⟩:=he.fn;rw[<- q4]at h3;rw[<- q5];refine VM (congrArg (λx=>stepG P main x w) e) ?_;exact stepG_mark0 m hm q1 q2 q3 h2 f1 f2 f3 f4 f5
theorem adx{main:Bool}{g:SG}{f:TQ}{w:Tp}{v:SP}{vs:Array SP}(h:cq g=some (f,vs))(he:Ext P f (λ_=>pure v)):stepG P main g w=.go (fin g v) w #[]:=by
 obtain⟨o,xs,l5,h1,h2,h3⟩:=cq.out h;obtain⟨b,a,ops,i,rest,kk,cs,e,q1,q2,q3,q4,q5,q6,_⟩:=ready.out h1;obtain⟨fn,f1,f2,f3,f4,f5⟩:=he.fn;rw[<- q5];refine VM (congrArg (λx=>stepG P main x w) e) ?_;exact stepG_entry_pure v q1 q2 q3 h2 f1 f2 f3 f4 f5
theorem WgAt.st{Wg:Nat}{w:Tp}{st sm:Int}(h:WgAt P Wg w st sm):w.cell? ⟨Wg,0,none⟩=some (.int .u64 st)/\w.cell? ⟨Wg,1,none⟩=some (.int .u32 sm)/\w.frozen? ⟨Wg,0,none⟩=false/\w.frozen? ⟨Wg,1,none⟩=false:=by
 unfold WgAt wgBlock at h;refine⟨?_,?_,?_,?_⟩<;>simp[UA,ZU,h]
theorem Nt{m:Mark}(hm:m=.disable\/m=.enable):∀e∈(#[⟨.mark m,false,true⟩]:Array Ut),WK e=true:=by
 intro e he;simp only[TM,SK,SZ,or_false]at he;subst he;rcases hm with rfl|rfl<;>rfl
end
set_option maxRecDepth 100000
theorem ahM:Ext SA 110 (VK .releaseMerge):=⟨⟨Tryz.f110,by kernel_rfl,by kernel_rfl,by kernel_rfl,by kernel_rfl,by kernel_rfl⟩⟩
theorem JM:Ext SA 111 (λ_=>do af' .disable;pure Xa):=⟨⟨Tryz.f111,by kernel_rfl,by kernel_rfl,by kernel_rfl,by kernel_rfl,by kernel_rfl⟩⟩
theorem ahN:Ext SA 112 (λ_=>do af' .enable;pure Xa):=⟨⟨Tryz.f112,by kernel_rfl,by kernel_rfl,by kernel_rfl,by kernel_rfl,by kernel_rfl⟩⟩
theorem QL:Ext SA 113 (λ_=>pure (.bool false)):=⟨⟨Tryz.f113,by kernel_rfl,by kernel_rfl,by kernel_rfl,by kernel_rfl,by kernel_rfl⟩⟩
theorem ahO:Ext SA 118 (VK .read):=⟨⟨Tryz.f118,by kernel_rfl,by kernel_rfl,by kernel_rfl,by kernel_rfl,by kernel_rfl⟩⟩
theorem ahP:Ext SA 122 XT:=⟨⟨Tryz.f122,by kernel_rfl,by kernel_rfl,by kernel_rfl,by kernel_rfl,by kernel_rfl⟩⟩
theorem ahQ:Ext SA 123 (VK .acquire):=⟨⟨Tryz.f123,by kernel_rfl,by kernel_rfl,by kernel_rfl,by kernel_rfl,by kernel_rfl⟩⟩
theorem ahR:Ext SA 126 (VK .write):=⟨⟨Tryz.f126,by kernel_rfl,by kernel_rfl,by kernel_rfl,by kernel_rfl,by kernel_rfl⟩⟩
theorem QM:Ext SA 127 WJ:=⟨⟨Tryz.f127,by kernel_rfl,by kernel_rfl,by kernel_rfl,by kernel_rfl,by kernel_rfl⟩⟩
theorem QN:Ext SA 134 (XU (au9 .add) .u64 true):=⟨⟨Tryz.f134,by kernel_rfl,by kernel_rfl,by kernel_rfl,by kernel_rfl,by kernel_rfl⟩⟩
theorem JN:Ext SA 135 (X5 (.int .u64)):=⟨⟨Tryz.f135,by kernel_rfl,by kernel_rfl,by kernel_rfl,by kernel_rfl,by kernel_rfl⟩⟩
theorem ahS:Ext SA 136 XV:=⟨⟨Tryz.f136,by kernel_rfl,by kernel_rfl,by kernel_rfl,by kernel_rfl,by kernel_rfl⟩⟩
theorem QO:Ext SA 137 (W1 (.int .u64)):=⟨⟨Tryz.f137,by kernel_rfl,by kernel_rfl,by kernel_rfl,by kernel_rfl,by kernel_rfl⟩⟩
theorem aee:SA.underlying 158=some (.pointer 147):=by kernel_rfl
theorem It:SA.underlying 160=some .unsafePointer:=by kernel_rfl
theorem i182:(SA.info? 147).map (λi=>decide (i.size=0))=some false:=by kernel_rfl
noncomputable def aqr:Uc:={(default:Uc)with fn:=184,defers:=[],mode:=.panicking [goexitEntry]}
noncomputable def aqn (fn:TQ)(tmps:Array SP)(todo:List WZ):Uc:={fn,tmps,todo,defers:=[],mode:=.returning,kind:=.deferred,roundOf:=none}
noncomputable def pW (Wg o:Nat):SP:=.pointer (some ⟨Wg,o,none⟩)
section
variable (Wg:Nat)(tmps:Array SP)(todo:List WZ)
noncomputable def d0:SG:=G (Frame.enter SA 98 #[pW Wg 0] .deferred) [aqn 97 tmps todo,aqr]
noncomputable def d14:SG:=cE SA false 14 (d0 Wg tmps todo)
noncomputable def d15:SG:=fin (d14 Wg tmps todo) (pW Wg 0)
noncomputable def d16:SG:=fin (d15 Wg tmps todo) (.tuple #[])
noncomputable def d19:SG:=cE SA false 3 (d16 Wg tmps todo)
noncomputable def d20:SG:=fin (d19 Wg tmps todo) (.tuple #[])
noncomputable def d31:SG:=cE SA false 11 (d20 Wg tmps todo)
noncomputable def d32:SG:=fin (d31 Wg tmps todo) (.bool false)
noncomputable def d54:SG:=cE SA false 22 (d32 Wg tmps todo)
noncomputable def d55 (s:Int):SG:=fin (d54 Wg tmps todo) (.int .u64 s)
noncomputable def d158:SG:=cE SA false 103 (d55 Wg tmps todo 1)
noncomputable def d159:SG:=fin (d158 Wg tmps todo) (.int .u64 1)
noncomputable def d179:SG:=cE SA false 20 (d159 Wg tmps todo)
noncomputable def d180:SG:=fin (d179 Wg tmps todo) (.tuple #[])
noncomputable def CC:SG:=cE SA false 27 (d180 Wg tmps todo)
noncomputable def Ab:SG:=fin (CC Wg tmps todo) (.tuple #[])
set_option maxRecDepth 100000
variable (w:Tp)
theorem x0:(fK SA false w 14 (d0 Wg tmps todo),oN SA false 14 (d0 Wg tmps todo),bQ (d14 Wg tmps todo),bQ (d15 Wg tmps todo))=(fB SA false w 14 (d0 Wg tmps todo),true,true,true):=by kernel_rfl
theorem x14:pc (d14 Wg tmps todo)=some (158,160,pW Wg 0):=by kernel_rfl
theorem x15:cq (d15 Wg tmps todo)=some (110,#[pW Wg 0]):=by kernel_rfl
theorem IF:(fK SA false w 3 (d16 Wg tmps todo),iY SA false 3 (d16 Wg tmps todo),bQ (d19 Wg tmps todo),jS SA false 3 0 (d16 Wg tmps todo))=(fB SA false w 3 (d16 Wg tmps todo),true,true,0):=by kernel_rfl
theorem x19:cq (d19 Wg tmps todo)=some (111,#[]):=by kernel_rfl
theorem IH:(fK SA false w 11 (d20 Wg tmps todo),iY SA false 11 (d20 Wg tmps todo),bQ (d31 Wg tmps todo),jS SA false 11 1 (d20 Wg tmps todo))=(fB SA false w 11 (d20 Wg tmps todo),true,true,1):=by kernel_rfl
theorem x31:cq (d31 Wg tmps todo)=some (113,#[]):=by kernel_rfl
theorem IJ:(fK SA false w 22 (d32 Wg tmps todo),iY SA false 22 (d32 Wg tmps todo),bQ (d54 Wg tmps todo),jS SA false 22 1 (d32 Wg tmps todo))=(fB SA false w 22 (d32 Wg tmps todo),true,true,1):=by kernel_rfl
theorem x54:cq (d54 Wg tmps todo)=some (134,#[pW Wg 0,.int .u64 18446744069414584320]):=by kernel_rfl
theorem q30:(fK SA false w 94 (d55 Wg tmps todo (3* 4294967296)),iY SA false 94 (d55 Wg tmps todo (3* 4294967296)),(cE SA false 94 (d55 Wg tmps todo (3* 4294967296))).status,jS SA false 94 1 (d55 Wg tmps todo (3* 4294967296)))=(fB SA false w 94 (d55 Wg tmps todo (3* 4294967296)),true,.finished,0):=by kernel_rfl
theorem q31:(fK SA false w 94 (d55 Wg tmps todo (3* 4294967296+1)),iY SA false 94 (d55 Wg tmps todo (3* 4294967296+1)),(cE SA false 94 (d55 Wg tmps todo (3* 4294967296+1))).status,jS SA false 94 1 (d55 Wg tmps todo (3* 4294967296+1)))=(fB SA false w 94 (d55 Wg tmps todo (3* 4294967296+1)),true,.finished,0):=by kernel_rfl
theorem q20:(fK SA false w 94 (d55 Wg tmps todo (2* 4294967296)),iY SA false 94 (d55 Wg tmps todo (2* 4294967296)),(cE SA false 94 (d55 Wg tmps todo (2* 4294967296))).status,jS SA false 94 1 (d55 Wg tmps todo (2* 4294967296)))=(fB SA false w 94 (d55 Wg tmps todo (2* 4294967296)),true,.finished,0):=by kernel_rfl
theorem q21:(fK SA false w 94 (d55 Wg tmps todo (2* 4294967296+1)),iY SA false 94 (d55 Wg tmps todo (2* 4294967296+1)),(cE SA false 94 (d55 Wg tmps todo (2* 4294967296+1))).status,jS SA false 94 1 (d55 Wg tmps todo (2* 4294967296+1)))=(fB SA false w 94 (d55 Wg tmps todo (2* 4294967296+1)),true,.finished,0):=by kernel_rfl
theorem q10:(fK SA false w 94 (d55 Wg tmps todo (1* 4294967296)),iY SA false 94 (d55 Wg tmps todo (1* 4294967296)),(cE SA false 94 (d55 Wg tmps todo (1* 4294967296))).status,jS SA false 94 1 (d55 Wg tmps todo (1* 4294967296)))=(fB SA false w 94 (d55 Wg tmps todo (1* 4294967296)),true,.finished,0):=by kernel_rfl
theorem q11:(fK SA false w 94 (d55 Wg tmps todo (1* 4294967296+1)),iY SA false 94 (d55 Wg tmps todo (1* 4294967296+1)),(cE SA false 94 (d55 Wg tmps todo (1* 4294967296+1))).status,jS SA false 94 1 (d55 Wg tmps todo (1* 4294967296+1)))=(fB SA false w 94 (d55 Wg tmps todo (1* 4294967296+1)),true,.finished,0):=by kernel_rfl
theorem q00:(fK SA false w 94 (d55 Wg tmps todo 0),iY SA false 94 (d55 Wg tmps todo 0),(cE SA false 94 (d55 Wg tmps todo 0)).status,jS SA false 94 1 (d55 Wg tmps todo 0))=(fB SA false w 94 (d55 Wg tmps todo 0),true,.finished,0):=by kernel_rfl
theorem IK:(fK SA false w 103 (d55 Wg tmps todo 1),iY SA false 103 (d55 Wg tmps todo 1),bQ (d158 Wg tmps todo),jS SA false 103 1 (d55 Wg tmps todo 1))=(fB SA false w 103 (d55 Wg tmps todo 1),true,true,1):=by kernel_rfl
theorem ati:cq (d158 Wg tmps todo)=some (135,#[pW Wg 0]):=by kernel_rfl
theorem IE:(fK SA false w 20 (d159 Wg tmps todo),iY SA false 20 (d159 Wg tmps todo),bQ (d179 Wg tmps todo),jS SA false 20 1 (d159 Wg tmps todo))=(fB SA false w 20 (d159 Wg tmps todo),true,true,1):=by kernel_rfl
theorem atj:cq (d179 Wg tmps todo)=some (136,#[pW Wg 0,.int .u64 0]):=by kernel_rfl
theorem IG:(fK SA false w 27 (d180 Wg tmps todo),iY SA false 27 (d180 Wg tmps todo),bQ (CC Wg tmps todo),jS SA false 27 1 (d180 Wg tmps todo))=(fB SA false w 27 (d180 Wg tmps todo),true,true,1):=by kernel_rfl
theorem atk:cq (CC Wg tmps todo)=some (122,#[pW Wg 1,.bool false,.int .i64 0]):=by kernel_rfl
theorem II:(fK SA false w 24 (Ab Wg tmps todo),iY SA false 24 (Ab Wg tmps todo),(cE SA false 24 (Ab Wg tmps todo)).status,jS SA false 24 1 (Ab Wg tmps todo))=(fB SA false w 24 (Ab Wg tmps todo),true,.finished,0):=by kernel_rfl
theorem xm:mayWake SA (CC Wg tmps todo)=true:=by kernel_rfl
end
section
variable (Wg:Nat)(tmps:Array SP)(todo:List WZ)
theorem dV{α β γ δ:Type}{a a':α}{b b':β}{c c':γ}{d d':δ}(h:(a,b,c,d)=(a',b',c',d')):a=a'/\b=b'/\c=c'/\d=d':=by
 simpa[U7]using h
theorem xU{s:Int}(h:∀w,(fK SA false w 94 (d55 Wg tmps todo s),iY SA false 94 (d55 Wg tmps todo s),(cE SA false 94 (d55 Wg tmps todo s)).status,jS SA false 94 1 (d55 Wg tmps todo s))=(fB SA false w 94 (d55 Wg tmps todo s),true,.finished,0)):∃q,Y9 SA q 1 (d55 Wg tmps todo s):=
 HZ 94 1 _ (λw=>(dV (h w)).1) (dV (h default)).2.1 (N8 (dV (h default)).2.2.1 (dV (h default)).2.2.2)
theorem ahF:EV SA Wg 1 (CC Wg tmps todo):=by
 refine⟨rfl,bQ.out (dV (IG Wg tmps todo default)).2.2.1,xm Wg tmps todo,Ab Wg tmps todo,λw hw=> ?_,?_⟩
 ·exact arB (n:=0) (atk Wg tmps todo) ahP hw.st.2.1 hw.st.2.2.2
 ·exact HZ 24 1 _ (λw=>(dV (II Wg tmps todo w)).1) (dV (II Wg tmps todo default)).2.1 (N8 (dV (II Wg tmps todo default)).2.2.1 (dV (II Wg tmps todo default)).2.2.2)
theorem ahG:EW SA Wg 1 (d179 Wg tmps todo):=by
 refine⟨rfl,bQ.out (dV (IE Wg tmps todo default)).2.2.1,d180 Wg tmps todo,λw hw=> ?_,?_⟩
 ·exact arD (atj Wg tmps todo) ahS hw.st.1 hw.st.2.2.1
 ·refine xk 27 1 _ (λw=>(dV (IG Wg tmps todo w)).1) (dV (IG Wg tmps todo default)).2.1 ?_;rw[(dV (IG Wg tmps todo default)).2.2.2];exact⟨0,ahF Wg tmps todo⟩
theorem ahE:EU SA Wg 1 (d158 Wg tmps todo):=by
 refine⟨rfl,bQ.out (dV (IK Wg tmps todo default)).2.2.1,d159 Wg tmps todo,λw hw=> ?_,?_⟩
 ·exact Oq (ati Wg tmps todo) JN hw.st.1
 ·refine xk 20 1 _ (λw=>(dV (IE Wg tmps todo w)).1) (dV (IE Wg tmps todo default)).2.1 ?_;rw[(dV (IE Wg tmps todo default)).2.2.2];exact⟨0,ahG Wg tmps todo⟩
theorem ahC:BY SA Wg 1 (d54 Wg tmps todo):=by
 refine⟨rfl,bQ.out (dV (IJ Wg tmps todo default)).2.2.1,λv wt u9 hv=>⟨d55 Wg tmps todo ((v:Int)* KK+wt),λw hw=> ?_,λh=> ?_,λh=> ?_⟩⟩
 ·have e:TA.wrap ((((v+1:Nat):Int)* KK+wt)+18446744069414584320)=(v:Int)* KK+wt:=by
   have h1:TA.bits=64:=rfl;have h2:TA.signed=false:=rfl;unfold Xg KK;rw[h1,h2];simp;omega
  have:=adw (P:=SA) (main:=false) (w:=w) (x54 Wg tmps todo) QN hw.st.1 hw.st.2.2.1;rw[e]at this;exact this
 ·obtain⟨rfl,rfl⟩:=h;refine xk 103 1 _ (λw=>(dV (IK Wg tmps todo w)).1) (dV (IK Wg tmps todo default)).2.1 ?_;have e:=(dV (IK Wg tmps todo default)).2.2.2;exact⟨0,by rw[show (((0:Nat):Int)* KK+((1:Nat):Int))=1 from rfl,e];exact ahE Wg tmps todo⟩
 ·have hv4:v=0\/v=1\/v=2\/v=3:=by omega
  have fY:wt=0\/wt=1:=by omega
  rcases hv4 with rfl|rfl|rfl|rfl<;>rcases fY with rfl|rfl
  ·exact xU Wg tmps todo (q00 Wg tmps todo)
  ·exact absurd ⟨rfl,rfl⟩ h
  ·exact xU Wg tmps todo (q10 Wg tmps todo)
  ·exact xU Wg tmps todo (q11 Wg tmps todo)
  ·exact xU Wg tmps todo (q20 Wg tmps todo)
  ·exact xU Wg tmps todo (q21 Wg tmps todo)
  ·exact xU Wg tmps todo (q30 Wg tmps todo)
  ·exact xU Wg tmps todo (q31 Wg tmps todo)
theorem ahD:Fa SA Wg (d15 Wg tmps todo):=by
 refine⟨bQ.out (dV (x0 Wg tmps todo default)).2.2.2,d16 Wg tmps todo,λw=>Ii .releaseMerge (λ_ _ h=>by cases h) (x15 Wg tmps todo) ahM,?_⟩;refine xk 3 0 _ (λw=>(dV (IF Wg tmps todo w)).1) (dV (IF Wg tmps todo default)).2.1 ?_;rw[(dV (IF Wg tmps todo default)).2.2.2];refine Ol (g:=d19 Wg tmps todo) (g':=d20 Wg tmps todo) (bQ.out (dV (IF Wg tmps todo default)).2.2.1) (Nt (.inl rfl)) (λw=>Ih (λ_ h=>by cases h) (x19 Wg tmps todo) JM) ?_;refine xk 11 1 (d20 Wg tmps todo) (λw=>(dV (IH Wg tmps todo w)).1) (dV (IH Wg tmps todo default)).2.1 ?_;rw[(dV (IH Wg tmps todo default)).2.2.2];refine Ol (es:=#[]) (g:=d31 Wg tmps todo) (g':=d32 Wg tmps todo) (bQ.out (dV (IH Wg tmps todo default)).2.2.1) (by simp) (λw=>adx (x31 Wg tmps todo) QL) ?_;refine xk 22 1 (d32 Wg tmps todo) (λw=>(dV (IJ Wg tmps todo w)).1) (dV (IJ Wg tmps todo default)).2.1 ?_;rw[(dV (IJ Wg tmps todo default)).2.2.2];exact⟨0,ahC Wg tmps todo⟩
theorem ahH{J:View->SG->Prop}(C:zC SA false J){V:View}{c:Nat}(hr:V.role=.work c Wg [])(hd:V.deaf=0):J V (d0 Wg tmps todo):=by
 have C':Closed false SA false J:={C with more:=λh=>by cases h};have hx:=dV (x0 Wg tmps todo default);refine tT C' 14 _ (λw=>(dV (x0 Wg tmps todo w)).1) hx.2.1 ?_;refine C.slip V _ (d15 Wg tmps todo) c Wg hr (bQ.out hx.2.2.1) (λw st hw hW=> ?_) (C.done V _ c Wg hr hd (ahD Wg tmps todo));exact Ij (x14 Wg tmps todo) aee It i182 hW.st.1
end
section
variable (Wg:Nat)(cs:List Uc)(main:Bool)
noncomputable def a0:SG:=G (Frame.enter SA 96 #[pW Wg 0,.int .i64 1] .normal) cs
noncomputable def Fl:SG:=cE SA main 12 (a0 Wg cs)
noncomputable def Ch:SG:=fin (Fl Wg cs main) (.tuple #[])
noncomputable def Fo:SG:=cE SA main 11 (Ch Wg cs main)
noncomputable def Cj:SG:=fin (Fo Wg cs main) (.bool false)
noncomputable def Fp:SG:=cE SA main 22 (Cj Wg cs main)
noncomputable def m8 (s:Int):SG:=fin (Fp Wg cs main) (.int .u64 s)
noncomputable def mZ (s:Int):SG:=cE SA main 87 (m8 Wg cs main s)
noncomputable def I4:SG:=cE SA main 52 (m8 Wg cs main 4294967296)
noncomputable def Cf:SG:=fin (I4 Wg cs main) (pW Wg 1)
noncomputable def Cg:SG:=fin (Cf Wg cs main) (.tuple #[])
noncomputable def Ci:SG:=cE SA main 39 (Cg Wg cs main)
set_option maxRecDepth 100000
variable (w:Tp)
theorem y0:(fK SA main w 12 (a0 Wg cs),oN SA main 12 (a0 Wg cs),bQ (Fl Wg cs main),cq (Fl Wg cs main))=(fB SA main w 12 (a0 Wg cs),true,true,some (111,#[])):=by kernel_rfl
theorem y13:(fK SA main w 11 (Ch Wg cs main),oN SA main 11 (Ch Wg cs main),bQ (Fo Wg cs main),cq (Fo Wg cs main))=(fB SA main w 11 (Ch Wg cs main),true,true,some (113,#[])):=by kernel_rfl
theorem y25:(fK SA main w 22 (Cj Wg cs main),oN SA main 22 (Cj Wg cs main),bQ (Fp Wg cs main),cq (Fp Wg cs main))=(fB SA main w 22 (Cj Wg cs main),true,true,some (134,#[pW Wg 0,.int .u64 4294967296])):=by kernel_rfl
noncomputable def yX (g:SG):ZG×Vf×Nat×Xi×List U2×Bool:=(.go (gB SA main g) w #[⟨.mark .enable,false,true⟩],(gB SA main g).frame.mode,(gB SA main g).frame.fn,(gB SA main g).frame.kind,(gB SA main g).frame.defers,bQ (gB SA main g))
theorem O1:(fK SA main w 87 (m8 Wg cs main (2* 4294967296)),oN SA main 87 (m8 Wg cs main (2* 4294967296)),bQ (mZ Wg cs main (2* 4294967296)),yX main w (mZ Wg cs main (2* 4294967296)))=(fB SA main w 87 (m8 Wg cs main (2* 4294967296)),true,true,stepG SA main (mZ Wg cs main (2* 4294967296)) w,.returning,96,.normal,[],true):=by kernel_rfl
theorem O2:(fK SA main w 87 (m8 Wg cs main (3* 4294967296)),oN SA main 87 (m8 Wg cs main (3* 4294967296)),bQ (mZ Wg cs main (3* 4294967296)),yX main w (mZ Wg cs main (3* 4294967296)))=(fB SA main w 87 (m8 Wg cs main (3* 4294967296)),true,true,stepG SA main (mZ Wg cs main (3* 4294967296)) w,.returning,96,.normal,[],true):=by kernel_rfl
theorem O3:(fK SA main w 87 (m8 Wg cs main (4* 4294967296)),oN SA main 87 (m8 Wg cs main (4* 4294967296)),bQ (mZ Wg cs main (4* 4294967296)),yX main w (mZ Wg cs main (4* 4294967296)))=(fB SA main w 87 (m8 Wg cs main (4* 4294967296)),true,true,stepG SA main (mZ Wg cs main (4* 4294967296)) w,.returning,96,.normal,[],true):=by kernel_rfl
theorem aev:(fK SA main w 52 (m8 Wg cs main 4294967296),oN SA main 52 (m8 Wg cs main 4294967296),bQ (I4 Wg cs main),pc (I4 Wg cs main))=(fB SA main w 52 (m8 Wg cs main 4294967296),true,true,some (165,160,pW Wg 1)):=by kernel_rfl
theorem atl:cq (Cf Wg cs main)=some (118,#[pW Wg 1]):=by kernel_rfl
theorem O0:(fK SA main w 39 (Cg Wg cs main),oN SA main 39 (Cg Wg cs main),bQ (Ci Wg cs main),yX main w (Ci Wg cs main))=(fB SA main w 39 (Cg Wg cs main),true,true,stepG SA main (Ci Wg cs main) w,.returning,96,.normal,[],true):=by kernel_rfl
theorem yr1:bQ (Cf Wg cs main)=true:=by kernel_rfl
theorem Iu:∃t,SA.underlying 165=some (.pointer t)/\(SA.info? t).map (λi=>decide (i.size=0))=some false:=⟨145,by kernel_rfl,by kernel_rfl⟩
theorem aiI:∃fn,SA.funcs[96]?=some fn/\fn.results=#[]:=⟨Tryz.f96,by kernel_rfl,by kernel_rfl⟩
end
section
variable {P:SI}{V:View}
theorem arL{w:Tp}{b o:Nat}{v:SP}{c:Array SP}{el:TypeId}(hw:Sat V w)(ho:V.own b=some (.cells c el (0,0)))(cC:V.ab b o=none)(Lu:V.role.chan≠some b):
  dh V w (V.upd b (.cells (c.setIfInBounds o v) el (0,0))) (w.setCell ⟨b,o,none⟩ v) #[⟨.cell ⟨b,o,none⟩,false,true⟩,⟨.cell ⟨b,o,none⟩,true,true⟩]:=by
 refine⟨hw.aek ho cC,rfl,rfl,rfl,by rw[Ey];exact SO _,λb' dI e=>wG _ _ _ (λx=> ?_),λb' dI e=> ?_,λ_ _ _ e=>e,λ_ _ _ e=> .inl e,λev cr=> ?_,by simp[deafBehind];rfl,rfl,λc' x bi e=>by rw[<- e];simp only[View.upd,ite_eq_right_iff];intro x';subst x';exact absurd bi Lu,λev cr=> ?_⟩
 ·have x':b=b':=x;subst x';rw[ho]at e;cases e
 ·have:b'≠b:=by intro x;subst x;rw[ho]at e;cases e
  simp only[View.upd,this,if_false];exact e
 ·simp only[TM,SK,SZ,or_false]at cr;rcases cr with rfl|rfl
  ·exact⟨.inr (.inl (by show V.own b≠none;rw[ho];simp)),.inl rfl⟩
  ·exact⟨.inr ⟨by show V.own b≠none;rw[ho];simp,cC⟩,.inl rfl⟩
 ·simp only[TM,SK,SZ,or_false]at cr;rcases cr with rfl|rfl<;>(show b<_;rw[Ey];exact hw.lt ho)
theorem Closed.said{lv main:Bool}{J:View->SG->Prop}(C:Closed lv P main J){g g':SG}{a:U_}(hr:g.status=.running)(ha:V.own a.block≠none/\V.ab a.block a.off=none)(h:∀w,stepG P main g w=.go g' w #[⟨.mark (.read a),false,true⟩]) (hJ:J V g'):J V g:=by
 refine C.step _ _ hr λw hw=> ?_;have hs:=aq3 (P:=P) (V:=V) (k:=(.pure ():Sem Unit)) (K:=λ_ V'=>V'=V) (Kp:=λ_ _=>False) (m:=.read a) (.inl rfl) ha (cI rfl);obtain⟨es,w',V',k1,k2,k3⟩:=hs.runs hw;rcases k3 with⟨x,k3,rfl⟩|⟨_,_,hx⟩
 ·have e1:Yk () w=Yk x w':=k3;have e2:es=#[⟨.mark (.read a),false,true⟩]:=k2.symm;cases e1;subst e2;refine⟨g',w,_,_,h w,?_,hJ⟩;rwa [tV (by simp)]at k1
 ·exact hx.elim
end
section
variable (Wg:Nat)(cs:List Uc)(main:Bool)
set_option maxRecDepth 100000
theorem yG2:gB SA main (mZ Wg cs main (2* 4294967296))=G (gB SA main (mZ Wg cs main (2* 4294967296))).frame cs:=by kernel_rfl
theorem yG3:gB SA main (mZ Wg cs main (3* 4294967296))=G (gB SA main (mZ Wg cs main (3* 4294967296))).frame cs:=by kernel_rfl
theorem yG4:gB SA main (mZ Wg cs main (4* 4294967296))=G (gB SA main (mZ Wg cs main (4* 4294967296))).frame cs:=by kernel_rfl
theorem yG1:gB SA main (Ci Wg cs main)=G (gB SA main (Ci Wg cs main)).frame cs:=by kernel_rfl
end
theorem kL{α β γ δ:Type}{a a':α}{b b':β}{c c':γ}{d d':δ}(h:(a,b,c,d)=(a',b',c',d')):a=a'/\b=b'/\c=c'/\d=d':=by
 simpa[U7]using h
section
variable {lv main:Bool}{J:View->SG->Prop}{V:View}{cs:List Uc}
theorem Ft(C:Closed lv SA main J){g:SG}{U:View}(bK:bQ g=true)(h:∀w,(Go.Gg.yX main w g)=(stepG SA main g w,.returning,96,.normal,[],true))(hG:gB SA main g=G (gB SA main g).frame cs)
  (hU:U={V with deaf:=deafBehind V.deaf #[⟨.mark .enable,false,true⟩]}) (hJ:∀fr,Leaves SA fr 96 .normal (.ret (.tuple #[])) U->J U (G fr cs)):J V g:=by
 refine C.mute (.inr rfl) (bQ.out bK) (λw=> ?_) (g':=gB SA main g) ?_
 ·have:=h w;simp only[Go.Gg.yX,U7]at this;exact this.1.symm
 ·have:=h default;simp only[Go.Gg.yX,U7]at this;obtain⟨_,h1,h2,h3,h4,_⟩:=this;rw[hG,<- hU];refine hJ _ ⟨h2,h4,h3,?_⟩;obtain⟨fn,hf,hr⟩:=aiI;exact⟨fn,hf,h1,results_none hr⟩
theorem afB{n Wg:Nat}{sm:TypeId}(hn:n<4)(hW:V.own Wg=some (.cells #[.int .u64 ((n:Int)* KK),.int .u32 0] sm (0,0))) (hi:∀o,V.ab Wg o=none) (hc:V.role.chan≠some Wg) (hd:V.deaf=0):
  Body lv SA 96 #[pW Wg 0,.int .i64 1] .normal V (λo V'=>o=.ret (.tuple #[])/\V'=V.upd Wg (.cells #[.int .u64 (((n+1:Nat):Int)* KK),.int .u32 0] sm (0,0))):=by
 intro main J C cs hJ;have hA:=kL (y0 Wg cs main default);show J V (a0 Wg cs);refine tT C 12 _ (λw=>(kL (y0 Wg cs main w)).1) hA.2.1 ?_;refine C.mute (g:=Fl Wg cs main) (g':=Ch Wg cs main) (.inl rfl) (bQ.out hA.2.2.1) (λw=>Ih (λ_ h=>by cases h) hA.2.2.2 JM) ?_;have hB:=kL (y13 Wg cs main default);refine tT C 11 _ (λw=>(kL (y13 Wg cs main w)).1) hB.2.1 ?_;refine C.idle (g:=Fo Wg cs main) (g':=Cj Wg cs main) (bQ.out hB.2.2.1) (λw=>adx hB.2.2.2 QL) ?_;have hC:=kL (y25 Wg cs main default);refine tT C 22 _ (λw=>(kL (y25 Wg cs main w)).1) hC.2.1 ?_;let V1:View:={V with deaf:=deafBehind V.deaf #[⟨.mark .disable,false,true⟩]};let V2:View:=V1.upd Wg (.cells #[.int .u64 (((n+1:Nat):Int)* KK),.int .u32 0] sm (0,0));have Av:{V2 with deaf:=deafBehind V2.deaf #[⟨.mark .enable,false,true⟩]}=V.upd Wg (.cells #[.int .u64 (((n+1:Nat):Int)* KK),.int .u32 0] sm (0,0)):=by
  obtain⟨i,o,d,r⟩:=V;have:d=0:=hd;subst this;rfl
 show J V1 (Fp Wg cs main);refine C.step _ _ (bQ.out hC.2.2.1) λw hw=> ?_;have hh:=hw.own Wg _ hW;have dq:w.cell? ⟨Wg,0,none⟩=some (.int .u64 ((n:Int)* KK)):=by simp[UA,hh]
 have Hb:w.frozen? ⟨Wg,0,none⟩=false:=by simp[ZU,hh]
 have hs:=adw (P:=SA) (main:=main) (w:=w) hC.2.2.2 QN dq Hb;have e:TA.wrap (((n:Int)* KK)+4294967296)=((n+1:Nat):Int)* KK:=by
  have h1:TA.bits=64:=rfl;have h2:TA.signed=false:=rfl;unfold Xg KK;rw[h1,h2];simp;omega
 rw[e]at hs;refine⟨m8 Wg cs main (((n+1:Nat):Int)* KK),_,_,V2,hs,?_,?_⟩
 ·exact arL (V:=V1) hw hW (hi 0) hc
 have hn4:n=0\/n=1\/n=2\/n=3:=by omega
 rcases hn4 with rfl|rfl|rfl|rfl
 ·have hD:=kL (aev Wg cs main default);refine tT C 52 _ (λw=>(kL (aev Wg cs main w)).1) hD.2.1 ?_;obtain⟨t,Mr,yI⟩:=Iu;have Sa:V2.own Wg=some (.cells #[.int .u64 (((0+1:Nat):Int)* KK),.int .u32 0] sm (0,0)):=by simp[V2,View.upd]
  refine C.step _ _ (bQ.out hD.2.2.1) λw hw=>⟨Cf Wg cs main,w,#[],V2,?_,.idle hw,?_⟩
  ·have hh:=hw.own Wg _ Sa;exact Ij hD.2.2.2 Mr It yI (v:=.int .u32 0) (by simp[UA,hh])
  refine C.said (g:=Cf Wg cs main) (g':=Cg Wg cs main) (a:=⟨Wg,1,none⟩) (bQ.out (yr1 Wg cs main)) ⟨by show V2.own Wg≠none;rw[Sa];simp,hi 1⟩ (λw=>Ii .read (λ_ _ h=>by cases h) (atl Wg cs main) ahO) ?_;have hE:=kL (O0 Wg cs main default);refine tT C 39 _ (λw=>(kL (O0 Wg cs main w)).1) hE.2.1 ?_;exact Ft C hE.2.2.1 (λw=>(kL (O0 Wg cs main w)).2.2.2) (yG1 Wg cs main) Av.symm λfr hl=>hJ _ _ fr ⟨rfl,rfl⟩ hl
 ·have hE:=kL (O1 Wg cs main default);refine tT C 87 _ (λw=>(kL (O1 Wg cs main w)).1) hE.2.1 ?_;exact Ft C hE.2.2.1 (λw=>(kL (O1 Wg cs main w)).2.2.2) (yG2 Wg cs main) Av.symm λfr hl=>hJ _ _ fr ⟨rfl,rfl⟩ hl
 ·have hE:=kL (O2 Wg cs main default);refine tT C 87 _ (λw=>(kL (O2 Wg cs main w)).1) hE.2.1 ?_;exact Ft C hE.2.2.1 (λw=>(kL (O2 Wg cs main w)).2.2.2) (yG3 Wg cs main) Av.symm λfr hl=>hJ _ _ fr ⟨rfl,rfl⟩ hl
 ·have hE:=kL (O3 Wg cs main default);refine tT C 87 _ (λw=>(kL (O3 Wg cs main w)).1) hE.2.1 ?_;exact Ft C hE.2.2.1 (λw=>(kL (O3 Wg cs main w)).2.2.2) (yG4 Wg cs main) Av.symm λfr hl=>hJ _ _ fr ⟨rfl,rfl⟩ hl
end
section
variable {P:SI}{main:Bool}{g:SG}{w:Tp}
def vq (g:SG):Option (TypeId×SP):=match ready g with
 |some {op:=.load t x, .. }=>some (t,g.frame.eval x)
 |_=>none
theorem arz{t:TypeId}{d:TypeDesc}{ad:U_}{v:SP}(h:vq g=some (t,.pointer (some ad)))(ht:P.underlying t=some d)(hd:TypeDesc.agg d=false)(hq:(P.funcs[g.frame.fn]?).any (·.norace)=false)(hc:w.cell? ad=some v):
  stepG P main g w=.go (fin g v) w #[⟨.cell ad,false,false⟩]:=by
 obtain⟨o,x,h1,h2,h3⟩:∃o x,ready g=some o/\o.op=.load t x/\g.frame.eval x=.pointer (some ad):=by
  unfold vq at h;split at h
  ·rename_i s x _ _ _ _ ho;simp only[Tm,U7]at h;obtain⟨rfl,h⟩:=h;exact⟨_,x,ho,rfl,h⟩
  ·cases h
 obtain⟨b,a,ops,i,rest,kk,cs,e,q1,q2,q3,q4,q5,q6,_⟩:=ready.out h1;rw[<- q4]at h3;rw[<- q5];refine VM (congrArg (λx=>stepG P main x w) e) ?_;have e1:execOp a.eval o=(do let v<- XF t (.pointer (some ad));pure (.value v)):=by
  unfold execOp;simp only[h2,h3]
 have e2:(isAgg t:Sem Bool).run P w=.ok false w/\∀es,(isAgg t:Sem Bool).events P w es=es:=by
  unfold isAgg Go.underlying;cases d<;>first
   |(exact(Bool.noConfusion hd))
   |(constructor<;>simp[go_sem,ht])
 have hr:(execOp a.eval o).run P w=.ok (.value v) w:=by
  rw[e1];simp[XF,Vh,loadVar,e2.1,hc]
 have cr:(execOp a.eval o).events P w #[]=#[⟨.cell ad,false,false⟩]:=by
  rw[e1];simp[XF,Vh,loadVar,e2.1,e2.2,hc]
 rw[au1 q1 q2 q3 hr];unfold listed;rw[cr,seen_eq (by rw[q6];exact hq) (by intro e he f;simp only[TM,SK,SZ,or_false]at he;rw[he];simp)]
def xS (g:SG):Option SP:=match ready g with
 |some {op:=.call {callee:=.builtin .close,args, .. }, .. }=>match args.toList with
  |[x]=>some (g.frame.eval x)
  |_=>none
 |_=>none
theorem ary{c cap s r:Nat}{FE:Array SP}{tm:Bool}(h:xS g=some (.chan (some c)))(hq:(P.funcs[g.frame.fn]?).any (·.norace)=false)(hc:w.heap[c]?=some (.chan cap FE false s r tm)):
  stepG P main g w=.go (fin g (.tuple #[])) {w with heap:=w.heap.setIfInBounds c (.chan cap FE true s r tm)} #[⟨.obj c,false,true⟩,⟨.obj c,true,true⟩]:=by
 obtain⟨o,x,l5,h1,h2,h3⟩:∃o x l5,ready g=some o/\o.op=.call {callee:=.builtin .close,args:=#[x],argTypes:=l5}/\g.frame.eval x=.chan (some c):=by
  unfold xS at h;split at h
  ·rename_i dst xs l5 ty pos af gd ho;split at h
   ·rename_i x hx;have:xs=#[x]:=(by apply VG;simpa using hx);subst this;exact⟨_,x,_,ho,rfl,by simpa using h⟩
   ·cases h
  ·cases h
 obtain⟨b,a,ops,i,rest,kk,cs,e,q1,q2,q3,q4,q5,q6,_⟩:=ready.out h1;rw[<- q4]at h3;rw[<- q5];refine VM (congrArg (λx=>stepG P main x w) e) ?_;exact stepG_close q1 q2 q3 h2 h3 hc (by rw[q6];exact hq)
end
section
variable (Wg fc c:Nat)
noncomputable def e0:SG:=born SA ⟨.fn (.func 100) #[pW Wg 0,pW fc 0],#[]⟩
noncomputable def e7:SG:=cE SA false 7 (e0 Wg fc)
noncomputable def e8:SG:=fin (e7 Wg fc) (.tuple #[])
noncomputable def e27:SG:=cE SA false 19 (e8 Wg fc)
noncomputable def f76 (h:SG)(v:Int):SG:=cE SA false 48 (fin h (.int .u64 v))
noncomputable def No (b:SG):SG:=cE SA false 25 (fin b (.bool false))
noncomputable def f96 (b:SG):SG:=cE SA false 19 (fin b (.bool true))
noncomputable def f97 (b:SG):SG:=fin (f96 b) (pW Wg 1)
noncomputable def f121 (b:SG):SG:=cE SA false 23 (fin (f97 Wg b) (.tuple #[]))
noncomputable def f138 (b:SG):SG:=cE SA false 16 (fin (f121 Wg b) (.tuple #[]))
noncomputable def f150 (b:SG):SG:=cE SA false 11 (fin (f138 Wg b) (.int .u64 0))
noncomputable def f154 (b:SG):SG:=cE SA false 3 (fin (f150 Wg b) (.tuple #[]))
noncomputable def f155 (b:SG):SG:=fin (f154 Wg b) (pW Wg 0)
noncomputable def f168 (b:SG):SG:=cE SA false 12 (fin (f155 Wg b) (.tuple #[]))
noncomputable def f169 (b:SG):SG:=fin (f168 Wg b) (.chan (some c))
noncomputable def f170 (b:SG):SG:=fin (f169 Wg c b) (.tuple #[])
noncomputable def zB (h:SG):SG:=cE SA false 31 (fin h (.int .u64 0))
noncomputable def O4 (h:SG):SG:=cE SA false 3 (fin (zB h) (.tuple #[]))
noncomputable def vN (h:SG):SG:=fin (O4 h) (pW Wg 0)
noncomputable def EP (h:SG):SG:=cE SA false 22 (fin (vN Wg h) (.tuple #[]))
noncomputable def vP (h:SG):SG:=fin (EP Wg h) (.chan (some c))
noncomputable def IM (h:SG):SG:=fin (vP Wg c h) (.tuple #[])
noncomputable def hd:List Int->SG
 |[]=>e27 Wg fc
 |v::l=>No (f76 (hd l) v)
noncomputable def bd (l:List Int)(v:Int):SG:=f76 (hd Wg fc l) v
noncomputable def fj (w:Tp)(n d:Nat)(g:SG):List ZG×Bool×Bool×Nat:=(fK SA false w n g,iY SA false n g,bQ (cE SA false n g),jS SA false n d g)
noncomputable def fi (w:Tp)(n d:Nat)(g:SG):List ZG×Bool×Bool×Nat:=(fB SA false w n g,true,true,d)
noncomputable def Af (w:Tp)(n:Nat)(g:SG):List ZG×Bool×GoStatus×Nat:=(fK SA false w n g,iY SA false n g,(cE SA false n g).status,jS SA false n 0 g)
noncomputable def Ae (w:Tp)(n:Nat)(g:SG):List ZG×Bool×GoStatus×Nat:=(fB SA false w n g,true,.finished,0)
noncomputable def qH (g:SG):Bool:= !(SA.funcs[g.frame.fn]?).any (·.norace)
noncomputable def zT (w:Tp)(h:SG):=(cq h,bQ h,fj w 31 1 (fin h (.int .u64 0)),cq (zB h),fj w 3 0 (fin (zB h) (.tuple #[])),pc (O4 h),cq (vN Wg h),bQ (vN Wg h),fj w 22 0 (fin (vN Wg h) (.tuple #[])),vq (EP Wg h),qH (EP Wg h),xS (vP Wg c h),qH (vP Wg c h),bQ (vP Wg c h),mayWake SA (vP Wg c h),Af w 4 (IM Wg c h))
noncomputable def zR (w:Tp)(h:SG):=(some ((135:TQ),#[pW Wg 0]),true,fi w 31 1 (fin h (.int .u64 0)),some ((112:TQ),(#[]:Array SP)),fi w 3 0 (fin (zB h) (.tuple #[])),some ((158:TypeId),(160:TypeId),pW Wg 0),some ((123:TQ),#[pW Wg 0]),true,fi w 22 0 (fin (vN Wg h) (.tuple #[])),some ((139:TypeId),pW fc 0),true,some (XS (some c)),true,true,true,Ae w 4 (IM Wg c h))
noncomputable def fT (w:Tp)(b:SG):=(cq b,bQ b,fj w 25 1 (fin b (.bool false)),fj w 19 1 (fin b (.bool true)),pc (f96 b),cq (f97 Wg b),bQ (f97 Wg b),fj w 23 1 (fin (f97 Wg b) (.tuple #[])),cq (f121 Wg b),(f121 Wg b).offers,fj w 16 1 (fin (f121 Wg b) (.tuple #[])),cq (f138 Wg b),fj w 11 1 (fin (f138 Wg b) (.int .u64 0)),cq (f150 Wg b),fj w 3 0 (fin (f150 Wg b) (.tuple #[])),pc (f154 Wg b),cq (f155 Wg b),bQ (f155 Wg b),fj w 12 0 (fin (f155 Wg b) (.tuple #[])),vq (f168 Wg b),qH (f168 Wg b),xS (f169 Wg c b),qH (f169 Wg c b),bQ (f169 Wg c b),mayWake SA (f169 Wg c b),Af w 4 (f170 Wg c b))
noncomputable def fR (w:Tp)(b:SG)(v:Int):=(some ((137:TQ),#[pW Wg 0,.int .u64 v,.int .u64 (v+1)]),true,fi w 25 1 (fin b (.bool false)),fi w 19 1 (fin b (.bool true)),some ((165:TypeId),(160:TypeId),pW Wg 1),some ((126:TQ),#[pW Wg 1]),true,fi w 23 1 (fin (f97 Wg b) (.tuple #[])),some ((127:TQ),#[pW Wg 1,.bool false]),(none:Option (Array CommCase×CommShape)),fi w 16 1 (fin (f121 Wg b) (.tuple #[])),some ((135:TQ),#[pW Wg 0]),fi w 11 1 (fin (f138 Wg b) (.int .u64 0)),some ((112:TQ),(#[]:Array SP)),fi w 3 0 (fin (f150 Wg b) (.tuple #[])),some ((158:TypeId),(160:TypeId),pW Wg 0),some ((123:TQ),#[pW Wg 0]),true,fi w 12 0 (fin (f155 Wg b) (.tuple #[])),some ((139:TypeId),pW fc 0),true,some (XS (some c)),true,true,true,Ae w 4 (f170 Wg c b))
set_option maxRecDepth 100000
theorem c0(w:Tp):(fj w 7 0 (e0 Wg fc),cq (e7 Wg fc),fj w 19 1 (e8 Wg fc))=(fi w 7 0 (e0 Wg fc),some ((111:TQ),(#[]:Array SP)),fi w 19 1 (e8 Wg fc)):=by kernel_rfl
noncomputable def pT (w:Tp)(l:List Int)(v:Int):=(fj w 48 1 (fin (hd Wg fc l) (.int .u64 v)),fT Wg c w (bd Wg fc l v),zT Wg c w (hd Wg fc (v::l)))
noncomputable def pR (w:Tp)(l:List Int)(v:Int):=(fi w 48 1 (fin (hd Wg fc l) (.int .u64 v)),fR Wg fc c w (bd Wg fc l v) v,zR Wg fc c w (hd Wg fc (v::l)))
theorem zz(w:Tp):zT Wg c w (hd Wg fc [])=zR Wg fc c w (hd Wg fc []):=by kernel_rfl
theorem N3(w:Tp):pT Wg fc c w [] (4* 4294967296)=pR Wg fc c w [] (4* 4294967296):=by kernel_rfl
theorem N2(w:Tp):pT Wg fc c w [4* 4294967296] (3* 4294967296)=pR Wg fc c w [4* 4294967296] (3* 4294967296):=by kernel_rfl
theorem NZ(w:Tp):pT Wg fc c w [3* 4294967296,4* 4294967296] (2* 4294967296)=pR Wg fc c w [3* 4294967296,4* 4294967296] (2* 4294967296):=by kernel_rfl
theorem NS(w:Tp):pT Wg fc c w [2* 4294967296,3* 4294967296,4* 4294967296] (1* 4294967296)=pR Wg fc c w [2* 4294967296,3* 4294967296,4* 4294967296] (1* 4294967296):=by kernel_rfl
theorem NV(w:Tp):pT Wg fc c w [3* 4294967296,4* 4294967296] (1* 4294967296)=pR Wg fc c w [3* 4294967296,4* 4294967296] (1* 4294967296):=by kernel_rfl
theorem N0(w:Tp):pT Wg fc c w [4* 4294967296] (2* 4294967296)=pR Wg fc c w [4* 4294967296] (2* 4294967296):=by kernel_rfl
theorem NT(w:Tp):pT Wg fc c w [2* 4294967296,4* 4294967296] (1* 4294967296)=pR Wg fc c w [2* 4294967296,4* 4294967296] (1* 4294967296):=by kernel_rfl
theorem NW(w:Tp):pT Wg fc c w [4* 4294967296] (1* 4294967296)=pR Wg fc c w [4* 4294967296] (1* 4294967296):=by kernel_rfl
theorem N1(w:Tp):pT Wg fc c w [] (3* 4294967296)=pR Wg fc c w [] (3* 4294967296):=by kernel_rfl
theorem NY(w:Tp):pT Wg fc c w [3* 4294967296] (2* 4294967296)=pR Wg fc c w [3* 4294967296] (2* 4294967296):=by kernel_rfl
theorem NR(w:Tp):pT Wg fc c w [2* 4294967296,3* 4294967296] (1* 4294967296)=pR Wg fc c w [2* 4294967296,3* 4294967296] (1* 4294967296):=by kernel_rfl
theorem NU(w:Tp):pT Wg fc c w [3* 4294967296] (1* 4294967296)=pR Wg fc c w [3* 4294967296] (1* 4294967296):=by kernel_rfl
theorem NX(w:Tp):pT Wg fc c w [] (2* 4294967296)=pR Wg fc c w [] (2* 4294967296):=by kernel_rfl
theorem NQ(w:Tp):pT Wg fc c w [2* 4294967296] (1* 4294967296)=pR Wg fc c w [2* 4294967296] (1* 4294967296):=by kernel_rfl
theorem NP(w:Tp):pT Wg fc c w [] (1* 4294967296)=pR Wg fc c w [] (1* 4294967296):=by kernel_rfl
end
section
variable {P:SI}{Wg:Nat}{Stop:Nat->SG->Prop}
theorem QT{n d d':Nat}{g:SG}(h:∀w,fj w n d g=fi w n d' g):(∀w,fK SA false w n g=fB SA false w n g)/\iY SA false n g=true/\bQ (cE SA false n g)=true/\jS SA false n d g=d':=
 ⟨λw=>(dV (h w)).1,(dV (h default)).2.1,(dV (h default)).2.2.1,(dV (h default)).2.2.2⟩
theorem xZ{n d d':Nat}{g:SG}(h:∀w,fj w n d g=fi w n d' g)(hs:∃m,cU SA Stop m d' (cE SA false n g)):∃m,cU SA Stop m d g:=by
 obtain⟨h1,h2,_,h4⟩:=QT h;exact xk n d g h1 h2 (by rw[h4];exact hs)
theorem JW{n d d':Nat}{g:SG}(h:∀w,fj w n d g=fi w n d' g)(hs:∃m,ij SA Wg Stop m d' (cE SA false n g)):∃m,ij SA Wg Stop m d g:=by
 obtain⟨h1,h2,_,h4⟩:=QT h;exact ads n d g h1 h2 (by rw[h4];exact hs)
theorem aie{n:Nat}{g:SG}(h:∀w,Af w n g=Ae w n g):∃q,Y9 SA q 0 g:=
 HZ n 0 g (λw=>(dV (h w)).1) (dV (h default)).2.1 (N8 (dV (h default)).2.2.1 (dV (h default)).2.2.2)
theorem arj{d:Nat}{g g':SG}{es:Array Ut}(hr:g.status=.running)(hm:∀e∈es,WK e=true)(h:∀w,stepG P false g w=.go g' w es)(hs:∃m,ij P Wg Stop m (deafBehind d es) g'):∃m,ij P Wg Stop m d g:=by
 obtain⟨m,fW⟩:=hs;exact⟨m+1,.inr ⟨hr,g',es,hm,λw _ _ _=>h w,fW⟩⟩
end
set_option maxRecDepth 100000
theorem t173:(SA.underlying 139).map TypeDesc.agg=some false:=by kernel_rfl
theorem N9{g:SG}{o:Tu}(h:ready g=some o):bQ g=true:=by
 obtain⟨_,_,_,_,_,_,_,_,_,_,_,_,_,_,hr⟩:=ready.out h;unfold bQ;rw[hr]
theorem zZ{g:SG}{f:TQ}{vs:Array SP}(h:cq g=some (f,vs)):bQ g=true:=by
 obtain⟨_,_,_,h1,_,_⟩:=cq.out h;exact N9 h1
theorem Qi{g:SG}{s d:TypeId}{v:SP}(h:pc g=some (s,d,v)):bQ g=true:=by
 unfold pc at h;split at h
 ·rename_i ho;exact N9 ho
 ·cases h
theorem anF{g:SG}{t:TypeId}{v:SP}(h:vq g=some (t,v)):bQ g=true:=by
 unfold vq at h;split at h
 ·rename_i ho;exact N9 ho
 ·cases h
section
variable {Wg fc c:Nat}{Im:cx}
theorem Pn{n:Nat}{g:SG}(hi:Im fc 0=some (.chan (some c)))(h1:cq g=some (123,#[pW Wg 0])) (h3:∀w,fj w n 0 (fin g (.tuple #[]))=fi w n 0 (fin g (.tuple #[])))
  (h4:vq (cE SA false n (fin g (.tuple #[])))=some (139,pW fc 0)) (h5:qH (cE SA false n (fin g (.tuple #[])))=true)
  (h6:xS (fin (cE SA false n (fin g (.tuple #[]))) (.chan (some c)))=some (.chan (some c))) (h7:qH (fin (cE SA false n (fin g (.tuple #[]))) (.chan (some c)))=true) (h8:bQ (fin (cE SA false n (fin g (.tuple #[]))) (.chan (some c)))=true)
  (h9:mayWake SA (fin (cE SA false n (fin g (.tuple #[]))) (.chan (some c)))=true) (h10:∀w,Af w 4 (fin (fin (cE SA false n (fin g (.tuple #[]))) (.chan (some c))) (.tuple #[]))=Ae w 4 (fin (fin (cE SA false n (fin g (.tuple #[]))) (.chan (some c))) (.tuple #[]))):uh SA Im c Wg 0 g:=by
 refine⟨rfl,bQ.out (zZ h1),_,λw=>Ii .acquire (λ_ _ h=>by cases h) h1 ahQ,?_⟩;refine xZ h3 ⟨0,rfl,bQ.out (anF h4),fc,0,_,_,hi,λw hc=> ?_,0,rfl,bQ.out h8,h9,_,λw s hw=> ?_,aie h10⟩
 ·obtain⟨d,cQ,kF⟩:=Tq.1 t173;exact arz h4 cQ kF (by simpa[qH]using h5) hc
 ·exact ary h6 (by simpa[qH]using h7) hw
theorem abo{n1 n2:Nat}{g:SG}(h1:∀w,fj w n1 1 g=fi w n1 1 g)(h2:cq (cE SA false n1 g)=some (112,#[])) (h3:∀w,fj w n2 0 (fin (cE SA false n1 g) (.tuple #[]))=fi w n2 0 (fin (cE SA false n1 g) (.tuple #[])))
  (h4:pc (cE SA false n2 (fin (cE SA false n1 g) (.tuple #[])))=some (158,160,pW Wg 0)) (h5:uh SA Im c Wg 0 (fin (cE SA false n2 (fin (cE SA false n1 g) (.tuple #[]))) (pW Wg 0))):∃n,ij SA Wg (uh SA Im c Wg) n 1 g:=by
 refine JW h1 ?_;refine arj (bQ.out (zZ h2)) (Nt (.inr rfl)) (λw=>Ih (λ_ h=>by cases h) h2 ahN) ?_;refine JW (d:=deafBehind 1 #[⟨.mark .enable,false,true⟩]) h3 ?_;exact adt (bQ.out (Qi h4)) (λw x y hW=>Ij h4 aee It i182 hW.st.1) ⟨0,h5⟩
theorem atp{h:SG}(hi:Im fc 0=some (.chan (some c)))(H:∀w,zT Wg c w h=zR Wg fc c w h):cq h=some (135,#[pW Wg 0])/\∃n,ij SA Wg (uh SA Im c Wg) n 1 (fin h (.int .u64 0)):=by
 have key:∀w,cq h=some ((135:TQ),#[pW Wg 0])/\bQ h=true/\fj w 31 1 (fin h (.int .u64 0))=fi w 31 1 (fin h (.int .u64 0))/\cq (zB h)=some ((112:TQ),(#[]:Array SP))/\fj w 3 0 (fin (zB h) (.tuple #[]))=fi w 3 0 (fin (zB h) (.tuple #[]))/\pc (O4 h)=some ((158:TypeId),(160:TypeId),pW Wg 0)/\cq (vN Wg h)=some ((123:TQ),#[pW Wg 0])/\bQ (vN Wg h)=true/\fj w 22 0 (fin (vN Wg h) (.tuple #[]))=fi w 22 0 (fin (vN Wg h) (.tuple #[]))/\vq (EP Wg h)=some ((139:TypeId),pW fc 0)/\qH (EP Wg h)=true/\xS (vP Wg c h)=some (XS (some c))/\qH (vP Wg c h)=true/\bQ (vP Wg c h)=true/\mayWake SA (vP Wg c h)=true/\Af w 4 (IM Wg c h)=Ae w 4 (IM Wg c h):=λw=>by
  have:=H w;unfold zT zR at this;simpa only[U7]using this
 obtain⟨k1,k2,_,k4,_,k6,k7,k8,_,DZ,MV,A',MW,D1,MX,_⟩:=key default;refine⟨k1,abo (n1:=31) (n2:=3) (λw=>(key w).2.2.1) k4 (λw=>(key w).2.2.2.2.1) k6 ?_⟩;exact Pn (n:=22) hi k7 (λw=>(key w).2.2.2.2.2.2.2.2.1) DZ MV A' MW D1 MX (λw=>(key w).2.2.2.2.2.2.2.2.2.2.2.2.2.2.2)
theorem ahb{b:SG}{v:Nat}(hv:0<v)(hi:Im fc 0=some (.chan (some c)))(H:∀w,fT Wg c w b=fR Wg fc c w b ((v:Int)* 4294967296))(hm:∃n,cU SA (eE SA Im c Wg v) n 1 (No b)):ER SA c Wg Im v 1 b:=by
 have key:∀w,cq b=some ((137:TQ),#[pW Wg 0,.int .u64 ((v:Int)* 4294967296),.int .u64 ((v:Int)* 4294967296+1)])/\bQ b=true/\fj w 25 1 (fin b (.bool false))=fi w 25 1 (fin b (.bool false))/\fj w 19 1 (fin b (.bool true))=fi w 19 1 (fin b (.bool true))/\pc (f96 b)=some ((165:TypeId),(160:TypeId),pW Wg 1)/\cq (f97 Wg b)=some ((126:TQ),#[pW Wg 1])/\bQ (f97 Wg b)=true/\fj w 23 1 (fin (f97 Wg b) (.tuple #[]))=fi w 23 1 (fin (f97 Wg b) (.tuple #[]))/\cq (f121 Wg b)=some ((127:TQ),#[pW Wg 1,.bool false])/\(f121 Wg b).offers=none/\fj w 16 1 (fin (f121 Wg b) (.tuple #[]))=fi w 16 1 (fin (f121 Wg b) (.tuple #[]))/\cq (f138 Wg b)=some ((135:TQ),#[pW Wg 0])/\fj w 11 1 (fin (f138 Wg b) (.int .u64 0))=fi w 11 1 (fin (f138 Wg b) (.int .u64 0))/\cq (f150 Wg b)=some ((112:TQ),(#[]:Array SP))/\fj w 3 0 (fin (f150 Wg b) (.tuple #[]))=fi w 3 0 (fin (f150 Wg b) (.tuple #[]))/\pc (f154 Wg b)=some ((158:TypeId),(160:TypeId),pW Wg 0)/\cq (f155 Wg b)=some ((123:TQ),#[pW Wg 0])/\bQ (f155 Wg b)=true/\fj w 12 0 (fin (f155 Wg b) (.tuple #[]))=fi w 12 0 (fin (f155 Wg b) (.tuple #[]))/\vq (f168 Wg b)=some ((139:TypeId),pW fc 0)/\qH (f168 Wg b)=true/\xS (f169 Wg c b)=some (XS (some c))/\qH (f169 Wg c b)=true/\bQ (f169 Wg c b)=true/\mayWake SA (f169 Wg c b)=true/\Af w 4 (f170 Wg c b)=Ae w 4 (f170 Wg c b):=λw=>by
  have:=H w;unfold fT fR at this;simpa only[U7]using this
 obtain⟨k1,k2,_,_,k5,k6,k7,_,k9,DZ,_,A',_,D1,_,MY,MZ,k18,_,M0,M1,M3,M4,M5,M6,_⟩:=key default;refine⟨rfl,bQ.out k2,⟨_,λw hW=>arw k1 QO hW.st.1 hW.st.2.2.1,?_⟩,λu hu=>⟨_,λw hW=>arx k1 QO hW.st.1 hW.st.2.2.1 (λe=> ?_),?_⟩⟩
 ·refine JW (λw=>(key w).2.2.2.1) ?_;have hs:SA.underlying 165=some (.pointer (Iu.choose))/\(SA.info? Iu.choose).map (λi=>decide (i.size=0))=some false:=Iu.choose_spec;refine adt (bQ.out (Qi k5)) (λw x y hW=>Ij k5 hs.1 It hs.2 hW.st.2.1) ⟨0,rfl,bQ.out k7,_,λw=>Ii .write (λ_ _ h=>by cases h) k6 ahR,?_⟩;refine xZ (λw=>(key w).2.2.2.2.2.2.2.1) ⟨0,rfl,bQ.out (zZ k9),DZ,λw st hW=> ?_,fin (f121 Wg b) (.tuple #[]),λw hW=> ?_,?_⟩
  ·exact arC k9 QM hW.st.2.1
  ·exact arA (n:=1) k9 QM hW.st.2.1 (by decide) hW.st.2.2.2
  ·refine xZ (λw=>(key w).2.2.2.2.2.2.2.2.2.2.1) ⟨0,rfl,bQ.out (zZ A'),_,λw hW=>Oq A' JN hW.st.1,?_⟩;refine abo (n1:=11) (n2:=3) (λw=>(key w).2.2.2.2.2.2.2.2.2.2.2.2.1) D1 (λw=>(key w).2.2.2.2.2.2.2.2.2.2.2.2.2.2.1) MY ?_;exact Pn (n:=12) hi MZ (λw=>(key w).2.2.2.2.2.2.2.2.2.2.2.2.2.2.2.2.2.2.1) M0 M1 M3 M4 M5 M6 (λw=>(key w).2.2.2.2.2.2.2.2.2.2.2.2.2.2.2.2.2.2.2.2.2.2.2.2.2)
 ·unfold KK at e;omega
 ·exact xZ (λw=>(key w).2.2.1) hm
theorem mJ(hi:Im fc 0=some (.chan (some c))){h:SG}{k:Nat}(hz:∀w,zT Wg c w h=zR Wg fc c w h)
  (hv:∀v,0<v->v<=k->v<=4->(∀w,fj w 48 1 (fin h (.int .u64 ((v:Int)* 4294967296)))=fi w 48 1 (fin h (.int .u64 ((v:Int)* 4294967296))))/\(∀w,fT Wg c w (f76 h ((v:Int)* 4294967296))=fR Wg fc c w (f76 h ((v:Int)* 4294967296)) ((v:Int)* 4294967296))/\eE SA Im c Wg v 1 (No (f76 h ((v:Int)* 4294967296)))):eE SA Im c Wg (k+1) 1 h:=by
 obtain⟨z1,z2⟩:=atp hi hz;rw[eE];refine⟨rfl,bQ.out (zZ z1),λv h1 h2=> ?_⟩;refine⟨_,λw hW=>Oq z1 JN hW.st.1,λe=> ?_,λe=> ?_⟩
 ·subst e;exact z2
 ·obtain⟨q1,q2,q3⟩:=hv v (by omega) h1 h2;exact xZ q1 ⟨0,ahb (by omega) hi q2 ⟨0,q3⟩⟩
theorem dP{l:List Int}{v:Int}(h:∀w,pT Wg fc c w l v=pR Wg fc c w l v):(∀w,fj w 48 1 (fin (hd Wg fc l) (.int .u64 v))=fi w 48 1 (fin (hd Wg fc l) (.int .u64 v)))/\(∀w,fT Wg c w (bd Wg fc l v)=fR Wg fc c w (bd Wg fc l v) v)/\(∀w,zT Wg c w (hd Wg fc (v::l))=zR Wg fc c w (hd Wg fc (v::l))):=by
 refine⟨λw=>(W5 (h w)).1,λw=>(W5 (W5 (h w)).2).1,λw=>(W5 (W5 (h w)).2).2⟩
end
section
variable (Wg fc c:Nat){Im:cx}
theorem alS(hi:Im fc 0=some (.chan (some c))):eE SA Im c Wg 1 1 (hd Wg fc [1* 4294967296]):=by
 refine mJ (k:=0) hi (dP (NP Wg fc c)).2.2 λv h1 h2 h3=> ?_;omega
theorem alT(hi:Im fc 0=some (.chan (some c))):eE SA Im c Wg 1 1 (hd Wg fc [1* 4294967296,2* 4294967296]):=by
 refine mJ (k:=0) hi (dP (NQ Wg fc c)).2.2 λv h1 h2 h3=> ?_;omega
theorem al0(hi:Im fc 0=some (.chan (some c))):eE SA Im c Wg 2 1 (hd Wg fc [2* 4294967296]):=by
 refine mJ (k:=1) hi (dP (NX Wg fc c)).2.2 λv h1 h2 h3=> ?_;rcases(show v=1 by omega)with rfl
 ·exact⟨(dP (NQ Wg fc c)).1,(dP (NQ Wg fc c)).2.1,alT Wg fc c hi⟩
theorem alX(hi:Im fc 0=some (.chan (some c))):eE SA Im c Wg 1 1 (hd Wg fc [1* 4294967296,3* 4294967296]):=by
 refine mJ (k:=0) hi (dP (NU Wg fc c)).2.2 λv h1 h2 h3=> ?_;omega
theorem alU(hi:Im fc 0=some (.chan (some c))):eE SA Im c Wg 1 1 (hd Wg fc [1* 4294967296,2* 4294967296,3* 4294967296]):=by
 refine mJ (k:=0) hi (dP (NR Wg fc c)).2.2 λv h1 h2 h3=> ?_;omega
theorem al1(hi:Im fc 0=some (.chan (some c))):eE SA Im c Wg 2 1 (hd Wg fc [2* 4294967296,3* 4294967296]):=by
 refine mJ (k:=1) hi (dP (NY Wg fc c)).2.2 λv h1 h2 h3=> ?_;rcases(show v=1 by omega)with rfl
 ·exact⟨(dP (NR Wg fc c)).1,(dP (NR Wg fc c)).2.1,alU Wg fc c hi⟩
theorem al4(hi:Im fc 0=some (.chan (some c))):eE SA Im c Wg 3 1 (hd Wg fc [3* 4294967296]):=by
 refine mJ (k:=2) hi (dP (N1 Wg fc c)).2.2 λv h1 h2 h3=> ?_;rcases(show v=1\/v=2 by omega)with rfl|rfl
 ·exact⟨(dP (NU Wg fc c)).1,(dP (NU Wg fc c)).2.1,alX Wg fc c hi⟩
 ·exact⟨(dP (NY Wg fc c)).1,(dP (NY Wg fc c)).2.1,al1 Wg fc c hi⟩
theorem alZ(hi:Im fc 0=some (.chan (some c))):eE SA Im c Wg 1 1 (hd Wg fc [1* 4294967296,4* 4294967296]):=by
 refine mJ (k:=0) hi (dP (NW Wg fc c)).2.2 λv h1 h2 h3=> ?_;omega
theorem alW(hi:Im fc 0=some (.chan (some c))):eE SA Im c Wg 1 1 (hd Wg fc [1* 4294967296,2* 4294967296,4* 4294967296]):=by
 refine mJ (k:=0) hi (dP (NT Wg fc c)).2.2 λv h1 h2 h3=> ?_;omega
theorem al3(hi:Im fc 0=some (.chan (some c))):eE SA Im c Wg 2 1 (hd Wg fc [2* 4294967296,4* 4294967296]):=by
 refine mJ (k:=1) hi (dP (N0 Wg fc c)).2.2 λv h1 h2 h3=> ?_;rcases(show v=1 by omega)with rfl
 ·exact⟨(dP (NT Wg fc c)).1,(dP (NT Wg fc c)).2.1,alW Wg fc c hi⟩
theorem alY(hi:Im fc 0=some (.chan (some c))):eE SA Im c Wg 1 1 (hd Wg fc [1* 4294967296,3* 4294967296,4* 4294967296]):=by
 refine mJ (k:=0) hi (dP (NV Wg fc c)).2.2 λv h1 h2 h3=> ?_;omega
theorem alV(hi:Im fc 0=some (.chan (some c))):eE SA Im c Wg 1 1 (hd Wg fc [1* 4294967296,2* 4294967296,3* 4294967296,4* 4294967296]):=by
 refine mJ (k:=0) hi (dP (NS Wg fc c)).2.2 λv h1 h2 h3=> ?_;omega
theorem al2(hi:Im fc 0=some (.chan (some c))):eE SA Im c Wg 2 1 (hd Wg fc [2* 4294967296,3* 4294967296,4* 4294967296]):=by
 refine mJ (k:=1) hi (dP (NZ Wg fc c)).2.2 λv h1 h2 h3=> ?_;rcases(show v=1 by omega)with rfl
 ·exact⟨(dP (NS Wg fc c)).1,(dP (NS Wg fc c)).2.1,alV Wg fc c hi⟩
theorem al5(hi:Im fc 0=some (.chan (some c))):eE SA Im c Wg 3 1 (hd Wg fc [3* 4294967296,4* 4294967296]):=by
 refine mJ (k:=2) hi (dP (N2 Wg fc c)).2.2 λv h1 h2 h3=> ?_;rcases(show v=1\/v=2 by omega)with rfl|rfl
 ·exact⟨(dP (NV Wg fc c)).1,(dP (NV Wg fc c)).2.1,alY Wg fc c hi⟩
 ·exact⟨(dP (NZ Wg fc c)).1,(dP (NZ Wg fc c)).2.1,al2 Wg fc c hi⟩
theorem al6(hi:Im fc 0=some (.chan (some c))):eE SA Im c Wg 4 1 (hd Wg fc [4* 4294967296]):=by
 refine mJ (k:=3) hi (dP (N3 Wg fc c)).2.2 λv h1 h2 h3=> ?_;rcases(show v=1\/v=2\/v=3 by omega)with rfl|rfl|rfl
 ·exact⟨(dP (NW Wg fc c)).1,(dP (NW Wg fc c)).2.1,alZ Wg fc c hi⟩
 ·exact⟨(dP (N0 Wg fc c)).1,(dP (N0 Wg fc c)).2.1,al3 Wg fc c hi⟩
 ·exact⟨(dP (N2 Wg fc c)).1,(dP (N2 Wg fc c)).2.1,al5 Wg fc c hi⟩
theorem hq_(hi:Im fc 0=some (.chan (some c))):eE SA Im c Wg 5 1 (hd Wg fc []):=by
 refine mJ (k:=4) hi (zz Wg fc c) λv h1 h2 h3=> ?_;rcases(show v=1\/v=2\/v=3\/v=4 by omega)with rfl|rfl|rfl|rfl
 ·exact⟨(dP (NP Wg fc c)).1,(dP (NP Wg fc c)).2.1,alS Wg fc c hi⟩
 ·exact⟨(dP (NX Wg fc c)).1,(dP (NX Wg fc c)).2.1,al0 Wg fc c hi⟩
 ·exact⟨(dP (N1 Wg fc c)).1,(dP (N1 Wg fc c)).2.1,al4 Wg fc c hi⟩
 ·exact⟨(dP (N3 Wg fc c)).1,(dP (N3 Wg fc c)).2.1,al6 Wg fc c hi⟩
theorem ahh(hi:Im fc 0=some (.chan (some c))):IR SA Im c Wg (born SA ⟨.fn (.func 100) #[pW Wg 0,pW fc 0],#[]⟩):=by
 have h0:∀w,fj w 7 0 (e0 Wg fc)=fi w 7 0 (e0 Wg fc)/\cq (e7 Wg fc)=some ((111:TQ),(#[]:Array SP))/\fj w 19 1 (e8 Wg fc)=fi w 19 1 (e8 Wg fc):=λw=>by
  have:=c0 Wg fc w;simpa only[U7]using this
 show ∃n,cU SA (eE SA Im c Wg 5) n 0 (e0 Wg fc);refine xZ (λw=>(h0 w).1) ?_;refine Ol (bQ.out (zZ (h0 default).2.1)) (Nt (.inl rfl)) (λw=>Ih (λ_ h=>by cases h) (h0 default).2.1 JM) ?_;exact xZ (d:=deafBehind 0 #[⟨.mark .disable,false,true⟩]) (λw=>(h0 w).2.2) ⟨0,hq_ Wg fc c hi⟩
end
open Go.Gg.Tk
section
variable {lv:Bool}{P:SI}{r:Option Nat}{nt:Nat}{E:Env}{V:View}{a:Act}{s:AS}{c:T7}{Q:Ex->Act->View->Prop}
theorem zV(s3:AS)(ah:At E V s a nt)(h:aP lv P r nt c s (λe s'=>match e with|.normal=>s'.Sub s3|_=>False))(hQ:∀E' V' a',Kept E E' V V' a a'->At E' V' s3 a' nt->Q .normal a' V'):WP lv P r c Q a V:=
 h E V a Q ah λae e E' V' a' s' hk aT he hΦ=>by
  cases ae<;>cases e<;>first
   |exact he.elim
   |exact hΦ.elim
   |exact hQ E' V' a' hk (aT.sub hΦ)
theorem unwind_mark{lv:Bool}{P:SI}{main:Bool}{J:View->SG->Prop}(C:Closed lv P main J){V:View}{fr:Uc}{cs:List Uc}{b:Nat}{ds:List U2}(h4:fr.defers={target:=.collected b,args:=#[]}::ds) (hm:(fr.mode matches .run)=false) (ho:V.own b=some (.deferred (some []))) (eS:V.role.chan≠some b) (h:J (V.upd b (.deferred none)) (G {fr with defers:=ds} cs)):J V (G fr cs):=by
 refine C.step _ _ rfl λw hw=> ?_;obtain⟨es,w',V',k1,k2,k3⟩:=(Oh (P:=P) ho eS).runs hw;rcases k3 with⟨x,k3,rfl,rfl⟩|⟨_,_,hx⟩
 ·refine⟨G {fr with defers:=ds} cs,w',seen P fr.fn es,_,?_,k1.seen P fr.fn,h⟩;have e:stepG P main (G fr cs) w=unwind P main fr cs none w:=by
   obtain⟨fn,tmps,todo,defers,mode,kind,ro⟩:=fr;cases mode with
   |run=>cases hm
   |returning=>simp[G,stepG]
   |panicking ch=>simp[G,stepG]
  rw[e];simp only[unwind,h4];simp[TB,k3,k2,T6,G]
 ·exact hx.elim
theorem dz{s s':AS}(h:∀p∈s'.T,∃b,look s.T p.1=some b/\Wk b p.2)(hH:s.H=s'.H):s.Sub s':=⟨λ_ _ e=>h _ (oJ e),hH⟩
theorem uy{E:Env}{x v:SP}(h:ap E (.val x) v):v=x:=by cases h;rfl
theorem FK{E:Env}{cs:Array SP}(h:cJ E [] cs):cs=#[]:=Array.size_eq_zero_iff.1 h.1
theorem Qx{E:Env}{l:List SP}{cs:Array SP}(h:cJ E (l.map .val) cs):cs=l.toArray:=by
 have hs:cs.size=l.length:=by simpa using h.1
 refine Array.ext hs λi h1 h2=> ?_;have hi:i<l.length:=by simpa using h2
 have:=uy (h.2 i (.val l[i]) (by simp[SW hi]));rw[SH,SJ h1]at this;simpa using this
def sd (K:Kn)(b:Nat):List SP:=.bool K.has:: .map (some b)::(K.aC.map (λn:Nat=>SF .u16 n)++(K.hours.map (λn:Nat=>SF .u16 n)++(K.less.map (λn:Nat=>SF .u16 n)++(K.aU.map (λn:Nat=>SF .u16 n)++K.first.map (SF .i64)))))
def r_ (K:Kn):Obj:=.map (K.aK.zipIdx.map ey).toArray K.aK.length
theorem ahw{E:Env}{K:Kn}{mp:Nat}{v:SP}(h:ap E (.agg (K.l mp)) v):v=.agg (sd K (E.blk mp)).toArray:=by
 cases h with
 |agg hs h=>
  rename_i cs;congr 1;have hl:(K.l mp).length=(sd K (E.blk mp)).length:=by simp[Kn.l,sd]
  have key:∀(i:Nat)(x:AV),(K.l mp)[i]?=some x->∀y,ap E x y->(sd K (E.blk mp))[i]?=some y:=by
   intro i x hx y hy
   match i with
   |0=>cases hx;rw[uy hy];rfl
   |1=>cases hx;cases hy;rfl
   |i+2=>
    have e:(K.l mp)[i+2]?=((K.aC.map (λn:Nat=>SF .u16 n)++(K.hours.map (λn:Nat=>SF .u16 n)++(K.less.map (λn:Nat=>SF .u16 n)++(K.aU.map (λn:Nat=>SF .u16 n)++K.first.map (SF .i64))))).map AV.val)[i]?:=by
     simp[Kn.l,wv,iv,YB]
    rw[e,To]at hx;obtain⟨z,h1,rfl⟩:=Tq.1 hx;rw[uy hy];exact h1
  have nI:cs.size=(sd K (E.blk mp)).length:=hs.trans hl;refine Array.ext nI λi h1 h2=> ?_;have hi:i<(K.l mp).length:=by omega
  have:=key i _ (SW hi) _ (h i _ (SW hi));rw[SH,SJ h1]at this;have h3:(sd K (E.blk mp)).toArray[i]?=some cs[i]:=by simpa using this
  rw[SJ h2]at h3;exact(V_ h3).symm
def qM (x:aj)(deep:Int)(bh:Nat):Spec:=λv _ Ow=>∃b,v=.agg (sd (gT x deep bh) b).toArray/\∀b',Ow b'=if b'=b then some (r_ (gT x deep bh))else none
set_option maxRecDepth 100000 in
theorem apm:SA.funcs.size=184:=by kernel_rfl
theorem OS{x:aj}{deep:Int}{bh:Nat}(hx:x.Ok)(hA:∀h∈kq x bh,mA h/\∀ns∈fZ x h,∀a∈(iB x h ns).map (dE h ns),jw x a):bL (gT x deep bh):=by
 unfold gT;refine Kv hx (λt ht=> ?_) D2;obtain⟨h,h1,h2⟩:=S6.1 ht;obtain⟨ns,h3,h4⟩:=OG h2;exact(hA h h1).2 ns h3 t h4
theorem atd{J:View->SG->Prop}(C:zC SA false J){E:Env}{V:View}{x:aj}{bh c Wg:Nat}{deep:Int}{rv tv dv fv:SP}(hx:x.Ok)(lO:bh<=3)(hA:∀h∈kq x bh,mA h/\∀ns∈fZ x h,∀a∈(iB x h ns).map (dE h ns),jw x a)(akP:Conc E V [])
  (hr:ap E (.rp x.l) rv) (ht:ap E (.rp [iv bh]) tv) (hd:ap E (.rp [iv deep]) dv) (hf:ap E (.rp [.val (.chan (some c))]) fv) (ce:V.role=.work c Wg [qM x deep bh]) (eT:V.deaf=0):J V (born SA ⟨.fn (.func 97) #[pW Wg 0,rv,tv,dv,fv],#[]⟩):=by
 have C':Closed false SA false J:={C with more:=λh=>by cases h};unfold born;rw[apm];refine aeh C' (fr:={(default:Uc)with fn:=184,defers:=[⟨.fn (.func 97) #[pW Wg 0,rv,tv,dv,fv],#[]⟩],mode:=.panicking [goexitEntry]}) (ds:=[]) rfl rfl (by kernel_rfl) ?_;refine ah2 (Q:=λa' V'=>∃b,a'.defers=[{target:=.collected b,args:=#[]},⟨.fn (.func 98) #[],#[pW Wg 0]⟩]/\V'.own b=some (.deferred (some []))/\V'.role=.work c Wg []/\V'.deaf=0) C' (by simp) F.f97 rfl ?_ ?_
 rotate_left
 ·rintro a' V' todo ⟨b,h1,h0,h2,h3⟩
  refine unwind_mark C' (ds:=[⟨.fn (.func 98) #[],#[pW Wg 0]⟩]) h1 rfl h0 (by rw[h2];simp[mX.chan]) ?_;refine aeh C' (ds:=[]) rfl rfl (by kernel_rfl) ?_;exact ahH Wg a'.tmps todo C h2 h3
 have cM:cJ E [.val (pW Wg 0),.rp x.l,.rp [iv bh],.rp [iv deep],.rp [.val (.chan (some c))]] (#[]++#[pW Wg 0,rv,tv,dv,fv]):=by
  refine⟨rfl,λi a e=> ?_⟩
  match i,e with
  |0,e=>cases e;exact .val _
  |1,e=>cases e;exact hr
  |2,e=>cases e;exact ht
  |3,e=>cases e;exact hd
  |4,e=>cases e;exact hf
 have ah:=Ct (nt:=25) akP cM (by simp);simp only[bt,SY]at ah;refine wp_seq ?_;refine(PO (nt:=25) (n:=0) (ds:=[]) (Φ:=λe s' ni=>e=.normal/\s'=⟨[(0,.val (pW Wg 0)),(1,.rp x.l),(2,.rp [iv bh]),(3,.rp [iv deep]),(4,.rp [.val (.chan (some c))])],[]⟩/\ni=[(.fn (.func 98) [] [],[.val (pW Wg 0)])]) rfl rfl rfl rfl rfl rfl (by kernel_rfl) ?_) E V _ _ ah trivial λae e E1 V1 a1 s1 ds1 iG wx cQ Dg h1=> ?_
 ·(try simp only[seval]);exact⟨_,_,_,rfl⟩
 obtain⟨rfl,rfl,rfl⟩:=h1;cases e<;>first
  |exact Dg.elim
  |skip
 have akY:a1.defers=[⟨.fn (.func 98) #[],#[pW Wg 0]⟩]:=by
  match jh:a1.defers,cQ with
  |[d],cQ=>
   obtain⟨⟨f,first,cV,fa,ca,vs,q1,rfl,q3,q4,q5⟩,_⟩:=cQ;cases q1;rw[FK q3,FK q4,Qx (l:=[pW Wg 0]) q5];rfl
  |[],cQ=>exact cQ.elim
  |_::_::_,cQ=>exact cQ.2.elim
 refine wp_seq ?_;refine zV ⟨[(5,.op 1 0),(0,.val (pW Wg 0)),(1,.rp x.l),(2,.rp [iv bh]),(3,.rp [iv deep]),(4,.rp [.val (.chan (some c))])],[setH [],.cells (Kn.zero.l 0) 88]⟩ wx ?_ λE2 V2 a2 cH uI=> ?_
 ·refine ak ?_;exact dz (by simp only[seval];simp[bm,Wk.refl]) rfl
 refine wp_seq (wp_seq ?_);refine zV ⟨vf x bh deep c (pW Wg 0),w7 x bh Kn.zero⟩ uI ?_ λE3 V3 a3 wL qi=> ?_
 ·have bP:x.l=[iv x.first,iv x.hours,iv x.am,cY x.seen,aL x.pieces,aL x.aA]:=rfl;refine ai ?_;simp only[seval,bP];refine aJ ((J' (x:=x) (n:=bh) ?_));(try simp only[seval]);exact dz (by unfold vf;simp only[seval];simp[bm,Wk.refl];exact Wk.refl _) rfl
 have akZ:a3.defers=[⟨.fn (.func 98) #[],#[pW Wg 0]⟩]:=wL.defers.trans (cH.defers.trans akY);have al7:V3.role=.work c Wg [qM x deep bh]:=wL.role.trans (cH.role.trans (iG.role.trans ce));have akT:V3.deaf=0:=wL.deaf.trans (cH.deaf.trans (iG.deaf.trans eT));refine amJ (lv:=false) (bs:=[⟨.fn (.func 98) #[],#[pW Wg 0]⟩]) hx lO hA (λe s' cD=>e=.normal/\s'=⟨vf x bh deep c (pW Wg 0),w7 x bh (gT x deep bh)++[.obj (.deferred (some [])),.gone]⟩/\cD=[4]) ⟨rfl,rfl,rfl⟩ E3 V3 a3 _ qi ⟨by simp[akZ],by simp⟩ λae e E4 V4 a4 s4 ms4 rJ rD alt he4 hΦ4=> ?_;obtain⟨rfl,rfl,rfl⟩:=hΦ4;cases e<;>first
  |exact he4.elim
  |skip
 have ak0:a4.defers=[{target:=.collected (E4.blk 4),args:=#[]},⟨.fn (.func 98) #[],#[pW Wg 0]⟩]:=alt.1;have al8:V4.role=.work c Wg [qM x deep bh]:=rJ.role.trans al7;have aaa:V4.deaf=0:=rJ.deaf.trans akT;have yh:bL (gT x deep bh):=OS hx hA;generalize hW:gT x deep bh=W at rD yh;have Ga:=Kn.len yh 0;refine IC (K:=λs'=>look s'.T 23=some (.val (.chan (some c)))/\look s'.T 24=some (.agg (W.l 0))/\s'.Sub ⟨vf x bh deep c (pW Wg 0),w7 x bh W++[.obj (.deferred (some [])),.gone]⟩) 2 1 rfl (by kernel_rfl) rD ?_ λE5 V5 a5 s5 gz j_ hK=> ?_
 ·unfold vf w7;(try simp only[seval,Ga]);rw[SS (i:=28) (by omega)];exact⟨rfl,dz (by simp only[seval];simp[bm,Wk.refl]) rfl⟩
 obtain⟨l23,l24,lN⟩:=hK;have Ge:=j_.sub lN;have e23:a5.eval (.tmp 23)=.chan (some c):=uy (j_.tok _ _ l23).2;have e24:a5.eval (.tmp 24)=.agg (sd W (E5.blk 0)).toArray:=ahw (j_.tok _ _ l24).2;have h0:V5.own (E5.blk 0)=some (r_ W):=(Ge.bu.obj 0 (setH W.aK) rfl).1;have h4:V5.own (E5.blk 4)=some (.deferred (some [])):=(Ge.bu.obj 4 (.obj (.deferred (some []))) rfl).1;have aF:E5.blk 4≠E5.blk 0:=λe=>by rw[e,h0]at h4;cases h4
 have hb4:E5.blk 4=E4.blk 4:=gz.le.blk 4 (by rw[rD.bu.n];simp[w7]);refine OX rfl rfl ?_;refine⟨c,Wg,qM x deep bh,[],λb=>decide (b=E5.blk 0),e23,by rw[gz.role];exact al8,gz.deaf.trans aaa,⟨E5.blk 0,by rw[hW];exact e24,λb'=> ?_⟩,?_⟩
 ·rw[hW];by_cases hb:b'=E5.blk 0
  ·subst hb;simp[h0]
  ·simp[hb]
 ·refine⟨trivial,E5.blk 4,?_,?_,rfl,gz.deaf.trans aaa⟩
  ·rw[hb4];exact gz.defers.trans ak0
  ·show (if decide (E5.blk 4=E5.blk 0)=true then none else V5.own (E5.blk 4))=_;rw[if_neg (by simpa using aF)];exact h4
theorem ao0(r:Option Nat):AV.parts (.val (.chan r))=some [.val (.chan r)]:=rfl
theorem att(r:Option Nat):lX (.chan r)=[.val (.chan r)]:=rfl
theorem am6(r:Option Nat):AV.leaf (.val (.chan r))=true:=rfl
theorem OU{x y:T7}{t:Nat}{b:Bool}(ah:At E V s a nt)(hl:look s.T t=some (.val (.bool b)))(h:WP lv P r (if b then x else y) Q a V):WP lv P r (.cond (.tmp t) x y) Q a V:=by
 have hd:=(ah.tok t _ hl).2;generalize hx:a.tmps.getD t undef=v at hd;cases hd;exact wp_cond (t:=b) hx h
end
theorem Qt{E:Env}{f:Fn}{first cV:List AV}{v:SP}(h:ap E (.fn f first cV) v):∃fa ca,v=.func f fa ca/\cJ E first fa/\cJ E cV ca:=by
 cases h with
 |fn dL fX h1 h2=>exact⟨_,_,rfl,⟨dL,h1⟩,⟨fX,h2⟩⟩
theorem CD{E:Env}{i o:Nat}{v:SP}(h:ap E (.op i o) v):v=.pointer (some ⟨E.blk i,o,none⟩):=by cases h;rfl
theorem Hy(x:aj)(n:Nat):∀a∈x.l,Lt n a:=by
 intro a ha;simp only[aj.l,SK,SZ,or_false]at ha;rcases ha with rfl|rfl|rfl|rfl|rfl|rfl
 ·exact .val _
 ·exact .val _
 ·exact .val _
 ·rw[abL];trivial
 ·rw[Hw];trivial
 ·rw[Hw];trivial
theorem anO(x:aj):Lt 0 (.rp x.l):=by
 rw[yW];exact Hy x 0
set_option maxRecDepth 100000 in
theorem wgT:OO SA=147:=by kernel_rfl
def ci:T7->T7
 |.block _ c|.loop c|.scope c=>c
 |_=> .skip
noncomputable def vk:T7:=XQ.body.getD .skip
noncomputable def ml:T7:=cs (cs (cs vk))
def sV:Obj:=.chan 0 #[] false 0 0 false
def jr:List AV:=bv false:: .val (.map none)::(TJ 15 (wv 0)++TJ 11 (iv 0))
def dx (x:aj)(deep:Int)(c:Nat):List aa:=[.part 6 x.l 76,.part 1 [iv deep] 3,.cells jr 88,.part 1 [.val (.chan (some c))] 139,.gone]
structure jv (x:aj)(deep:Int)(Hs:List aa)(E:Env)(c Wg:Nat)(rv dv fv:SP)(T:List (Nat×AV))(M:List aa)(E':Env)(V':View)(a':Act):Prop where
 ah:At E' V' ⟨T,Hs++(dx x deep c++M)⟩ a' 35
 lo:E.Lo E'
 main:E'.main=false
 defers:a'.defers=[]
 deaf:V'.deaf=0
 er:rv=.pointer (some ⟨E'.blk Hs.length,0,none⟩)
 ed:dv=.pointer (some ⟨E'.blk (Hs.length+1),0,none⟩)
 ef:fv=.pointer (some ⟨E'.blk (Hs.length+3),0,none⟩)
 dr:ap E' (.rp x.l) rv
 dd:ap E' (.rp [iv deep]) dv
 df:ap E' (.rp [.val (.chan (some c))]) fv
 fr:∀b y,E.fr b=some y->E'.fr b=some y/\b≠c/\b≠Wg
 ne:c≠Wg
section
variable {x:aj}{deep:Int}{Hs:List aa}{E:Env}{c Wg:Nat}{rv dv fv:SP}{T T':List (Nat×AV)}{M M' G:List aa}{E1 E2:Env}{V1 V2:View}{a1 a2:Act}
theorem jv.Ik(h:jv x deep Hs E c Wg rv dv fv T M E1 V1 a1)(le:E1.Le E2)(bA:a2.defers=a1.defers)(eT:V2.deaf=V1.deaf)(ah:At E2 V2 ⟨T',Hs++(dx x deep c++M')⟩ a2 35):jv x deep Hs E c Wg rv dv fv T' M' E2 V2 a2:=by
 have hl:∀i,i<5->Hs.length+i<E1.n:=λi hi=>by rw[h.ah.bu.n];simp[dx];omega
 exact⟨ah,h.lo.trans le.lo,le.main.trans h.main,bA.trans h.defers,eT.trans h.deaf,by have:=le.blk _ (hl 0 (by omega));rw[UI]at this;rw[this];exact h.er,by rw[le.blk _ (hl 1 (by omega))];exact h.ed,by rw[le.blk _ (hl 3 (by omega))];exact h.ef,h.dr.mono le,h.dd.mono le,h.df.mono le,λb y e=>by rw[le.fr];exact h.fr b y e,h.ne⟩
theorem jv.step(h:jv x deep Hs E c Wg rv dv fv T M E1 V1 a1)(hk:Kept E1 E2 V1 V2 a1 a2)(ah:At E2 V2 ⟨T',Hs++(dx x deep c++M')⟩ a2 35):jv x deep Hs E c Wg rv dv fv T' M' E2 V2 a2:=h.Ik hk.le hk.defers hk.deaf ah
theorem jv.to(T':List (Nat×AV))(M':List aa)(h:jv x deep Hs E c Wg rv dv fv T M E1 V1 a1){cd:T7}{Q:Ex->Act->View->Prop}(hw:aP true SA none 35 cd ⟨T,Hs++(dx x deep c++M)⟩ (λe s'=>match e with|.normal=>s'.Sub ⟨T',Hs++(dx x deep c++M')⟩|_=>False))
  (hQ:∀E2 V2 a2,Kept E1 E2 V1 V2 a1 a2->jv x deep Hs E c Wg rv dv fv T' M' E2 V2 a2->Q .normal a2 V2):WP true SA none cd Q a1 V1:=
 zV ⟨T',Hs++(dx x deep c++M')⟩ h.ah hw λE2 V2 a2 hk ah=>hQ E2 V2 a2 hk (h.step hk ah)
theorem jv.cut(h:jv x deep Hs E c Wg rv dv fv T (M++G) E1 V1 a1)(hE:E.n<=Hs.length)(hT:∀p∈T',∃b,look T p.1=some b/\Wk b p.2/\Lt (Hs.length+5+M.length) p.2)(aq:bH (Hs++(dx x deep c++M))):jv x deep Hs E c Wg rv dv fv T' M {E1 with n:=Hs.length+5+M.length} V1 a1:=by
 have hlen:(Hs++(dx x deep c++M)).length=Hs.length+5+M.length:=by simp[dx];omega
 have hc:=h.ah.cut (s':=⟨T',Hs++(dx x deep c++M)⟩) ⟨λt a e=>by
  obtain⟨b,h1,h2,h3⟩:=hT _ (oJ e);exact⟨b,h1,h2,by rw[hlen];exact h3⟩,⟨G,by simp⟩,aq⟩
 simp only[hlen]at hc;exact⟨hc,h.lo.cut (by omega),h.main,h.defers,h.deaf,h.er,h.ed,h.ef,h.dr.trim (by rw[yW];exact Hy x _),h.dd.trim (by simp[yW,eC]),h.df.trim (by simp[yW,eC]),h.fr,h.ne⟩
theorem abn(hH:bH Hs)(hM:∀z∈M,eQ (Hs.length+5+M.length) z):bH (Hs++(dx x deep c++M)):=by
 intro y hy;have hlen:(Hs++(dx x deep c++M)).length=Hs.length+5+M.length:=by simp[dx];omega
 rw[hlen];rcases SQ.1 hy with h|h
 ·exact(hH y h).mono (by omega)
 ·rcases SQ.1 h with h|h
  ·simp only[dx,SK,SZ,or_false]at h;rcases h with rfl|rfl|rfl|rfl|rfl
   ·exactλa ha=>Hy x _ a ha
   ·intro a ha;simp at ha;subst ha;exact .val _
   ·intro a ha;simp only[jr,SK,SQ,XB]at ha;rcases ha with rfl|rfl|⟨_,rfl⟩|⟨_,rfl⟩<;>exact .val _
   ·intro a ha;simp at ha;subst ha;exact .val _
   ·trivial
  ·exact hM y h
end
def oT (x:aj)(deep:Int)(i:Nat):List (List Spec):=(SU i).map λk=>[qM x deep k]
theorem On(x:aj)(deep:Int)(i:Nat):(oT x deep i).length=i:=by simp[oT]
theorem arm(x:aj)(deep:Int)(i:Nat):oT x deep (i+1)=oT x deep i++[[qM x deep i]]:=by simp[oT,Vp]
def xI (x:aj):Prop:=∀bh,bh<=3->∀h∈kq x bh,mA h/\∀ns∈fZ x h,∀a∈(iB x h ns).map (dE h ns),jw x a
noncomputable def jB (Hs:List aa)(Wg:Nat)(n:Int)(i:Nat):List (Nat×AV):=[(16,iv i),(15,iv n),(6,.val (pW Wg 0)),(5,.op (Hs.length+3) 0),(4,.op (Hs.length+2) 0),(3,.op (Hs.length+1) 0),(2,.op Hs.length 0)]
structure vS (x:aj)(deep:Int)(Hs:List aa)(E:Env)(c Wg:Nat)(rv dv fv:SP)(i:Nat)(T:List (Nat×AV))(M:List aa)(E':Env)(V':View)(a':Act):Prop where
 ok:jv x deep Hs E c Wg rv dv fv T M E' V' a'
 role:V'.role=.fork c Wg (oT x deep i)
 FY:E'.fr c=some sV
 CL:E'.fr Wg=some (wgBlock SA ((i:Int)* 4294967296) 0)
section
variable {x:aj}{deep n:Int}{Hs:List aa}{E:Env}{c Wg i:Nat}{rv dv fv:SP}{T T':List (Nat×AV)}{M M':List aa}{E1 E2:Env}{V1 V2:View}{a1 a2:Act}
theorem vS.step(h:vS x deep Hs E c Wg rv dv fv i T M E1 V1 a1)(hk:Kept E1 E2 V1 V2 a1 a2)(hc:jv x deep Hs E c Wg rv dv fv T' M' E2 V2 a2):vS x deep Hs E c Wg rv dv fv i T' M' E2 V2 a2:=
 ⟨hc,hk.role.trans h.role,by rw[hk.le.fr];exact h.FY,by rw[hk.le.fr];exact h.CL⟩
theorem amV(hx:x.Ok)(hA:xI x)(Au:E.n<=Hs.length)(aq:bH (Hs++(dx x deep c++[])))(h:vS x deep Hs E c Wg rv dv fv i (jB Hs Wg n i) [] E1 V1 a1)(hi:i<=3){cd:T7}{Q:Ex->Act->View->Prop}(hcd:cd=cs (cs (ci (ci (cs (cf ml))))))
  (hQ:∀E2 V2 a2,vS x deep Hs E c Wg rv dv fv (i+1) (jB Hs Wg n (i+1)) [] E2 V2 a2->Q .normal a2 V2):WP true SA none cd Q a1 V1:=by
 subst hcd;refine wp_seq (wp_block (wp_seq ?_));refine h.ok.to ((7,.op (Hs.length+5) 0)::jB Hs Wg n i) [.cells [iv i] 3] ?_ λE2 V2 a2 cH cO=> ?_
 ·unfold jB dx;refine ak ?_;exact dz (by simp only[seval];simp[bm,Wk.refl]) rfl
 have h2:=h.step cH cO;obtain⟨V3,g3,o3,r3,d3,Ho,Ju,Qp⟩:=cO.ah.bu.HX (id:=Hs.length+5) (by rw[aY];rfl) 1 (by simp);rw[dJ]at Ju;have LM:Kept E2 {E2 with I:=V3.ab} V2 V3 a2 a2:=⟨Ho,rfl,rfl,r3,d3⟩;have dQ:=cO.step (T':=(7,.op (Hs.length+5) 0)::jB Hs Wg n i) (M':=[.part 1 [iv i] 3]) LM ⟨Ju,cO.ah.tok.mono Ho,cO.ah.size⟩;have h3:=h2.step LM dQ;refine WP.ghost g3 ?_;generalize{E2 with I:=V3.ab}=E3 at Ho Ju Qp LM dQ h3;have e6:a2.eval (.tmp 6)=pW Wg 0:=uy (dQ.ah.tok 6 (.val (pW Wg 0)) rfl).2;obtain⟨w1,w2,w3⟩:=dQ.ah.bu.fr Wg _ h3.CL;have hrc:V3.role.chan≠some Wg:=by rw[h3.role];intro e;cases e;exact dQ.ne rfl
 refine wp_seq (aet rfl rfl (aoI rfl rfl (by kernel_rfl) ?_));have cM:(#[auW 6,au8 (.int .i64 1)]:Array Tj).map a2.eval=#[pW Wg 0,.int .i64 1]:=by
  simp only[List.map_toArray,UP,List.map_nil,e6];rfl
 rw[cM];refine(afB (n:=i) (sm:=OO SA) (by omega) w1 w2 hrc dQ.deaf).mono λo V4 hV=> ?_;obtain⟨rfl,rfl⟩:=hV;dsimp only;refine ath ?_;let xv:Obj:=wgBlock SA (((i+1:Nat):Int)* 4294967296) 0;show WP true SA none _ _ (a2.put (some 19) (.tuple #[])) (V3.upd Wg xv);have sW:=dQ.ah.bu.aj1 h3.CL xv;let f4:Nat->Option Obj:=λb'=>if b'=Wg then some xv else E3.fr b';have l9:jv x deep Hs E c Wg rv dv fv ((7,.op (Hs.length+5) 0)::jB Hs Wg n i) [.part 1 [iv i] 3] (E3.frame f4) (V3.upd Wg xv) (a2.put (some 19) (.tuple #[])):=by
  refine⟨⟨sW,λt av e=> ?_,(dX a2 (some 19) _).trans dQ.ah.size⟩,dQ.lo.trans (Env.Hu E3 f4),dQ.main,(put_defers a2 _ _).trans dQ.defers,dQ.deaf,dQ.er,dQ.ed,dQ.ef,dQ.dr.frame f4,dQ.dd.frame f4,dQ.df.frame f4,λb y e=> ?_,dQ.ne⟩
  ·have aF:t≠19:=by
    intro et;subst et;simp[jB,look]at e
   have:=((dQ.ah.tok.frame f4).put (d:=19) (a:=.aN []) (v:=.tuple #[]) (by rw[dQ.ah.size];omega) (.aN rfl (by simp))) t av (by simp only[look];rw[if_neg (Ne.symm aF)];exact e);exact this
  ·obtain⟨q1,q2,q3⟩:=dQ.fr b y e;exact⟨by show (if b=Wg then _ else _)=_;rw[if_neg q3];exact q1,q2,q3⟩
 have QB:ap (E3.frame f4) (.rp [iv i]) (.pointer (some ⟨(E3.frame f4).blk (Hs.length+5),0,none⟩)):=by
  have hl:Hs.length+5<E2.n:=by rw[cO.ah.bu.n];simp[dx]
  have e:(E3.frame f4).blk (Hs.length+5)=E2.blk (Hs.length+5):=Ho.blk _ hl;rw[e];exact Qp.frame f4
 have H6:(V3.upd Wg xv).role=.fork c Wg (oT x deep i):=h3.role;have RA:(E3.frame f4).fr c=some sV:=by
  show (if c=Wg then _ else _)=_;rw[if_neg dQ.ne];exact h3.FY
 have RB:(E3.frame f4).fr Wg=some xv:=by
  show (if Wg=Wg then _ else _)=_;rw[if_pos rfl]
 generalize E3.frame f4=E4 at l9 QB RA RB;generalize V3.upd Wg xv=V4 at l9 H6;generalize a2.put (some 19) (.tuple #[])=a4 at l9;clear sW;refine IC (K:=λs'=>look s'.T 20=some (.fn (.func 97) [] [.val (pW Wg 0),.op Hs.length 0,.op (Hs.length+5) 0,.op (Hs.length+1) 0,.op (Hs.length+3) 0])/\s'.Sub ⟨jB Hs Wg n i,Hs++(dx x deep c++[.part 1 [iv i] 3])⟩) 1 1 rfl (by kernel_rfl) l9.ah ?_ λE5 V5 a5 s5 gz j_ hK=> ?_
 ·unfold jB dx;(try simp only[seval,Ub,UE,Uj,TR]);exact dz (by simp only[seval];simp[bm,Wk.refl]) rfl
 obtain⟨l20,lN⟩:=hK;have Ge:=j_.sub lN;have cy:=l9.step gz Ge;have Eo:V5.role=.fork c Wg (oT x deep i):=gz.role.trans H6;have wm:E5.fr c=some sV:=by rw[gz.le.fr];exact RA
 have CM:E5.fr Wg=some xv:=by rw[gz.le.fr];exact RB
 have dk5:=QB.mono gz.le;have qt:Hs.length+5<E4.n:=by rw[l9.ah.bu.n];simp[dx]
 refine OX rfl rfl ?_;obtain⟨c1,c2,c3⟩:=cy.ah.bu.fr c _ wm;obtain⟨v1,v2,v3⟩:=cy.ah.bu.fr Wg _ CM;have e20:a5.eval (.tmp 20)=.func (.func 97) #[] #[pW Wg 0,rv,.pointer (some ⟨E5.blk (Hs.length+5),0,none⟩),dv,fv]:=by
  obtain⟨fa,ca,q1,q2,q3⟩:=Qt (j_.tok 20 _ l20).2;rw[FK q2]at q1;refine q1.trans ?_;have Mk:ca.size=5:=q3.1;have k0:=uy (q3.2 0 _ rfl);have k1:=CD (q3.2 1 _ rfl);have k2:=CD (q3.2 2 _ rfl);have k3:=CD (q3.2 3 _ rfl);have k4:=CD (q3.2 4 _ rfl);rw[<- cy.er]at k1;rw[<- cy.ed]at k3;rw[<- cy.ef]at k4;congr 1;refine Array.ext Mk λj h1 h2=> ?_;have hj:j=0\/j=1\/j=2\/j=3\/j=4:=by omega
  rw[SH,SJ (by omega)]at k0 k1 k2 k3 k4;rcases hj with rfl|rfl|rfl|rfl|rfl
  ·exact k0
  ·exact k1
  ·exact k2
  ·exact k3
  ·exact k4
 refine⟨rfl,.tmp 20,97,#[],_,rfl,e20,cy.deaf,.inl ⟨c,Wg,oT x deep i,qM x deep i,[],Eo,c1,?_,?_,v2,λJ0 C=> ?_,?_⟩⟩
 ·rw[v1,On]
 ·rw[On];omega
 ·have hb:E5.blk (Hs.length+5)=E4.blk (Hs.length+5):=gz.le.blk _ qt;rw[hb];have:=atd (J:=J0) (V:={ab:=V5.ab,own:=λ_=>none,deaf:=0,role:=.work c Wg [qM x deep i]}) C hx hi (hA i hi) (ahk cy.ah.bu.I rfl rfl) (cy.dr.bare (anO x)) (dk5.bare (by simp[yW,eC])) (cy.dd.bare (by simp[yW,eC])) (cy.df.bare (by simp[yW,eC])) rfl rfl;simpa using this
 let V6:View:={V5 with role:=.fork c Wg (oT x deep i++[[qM x deep i]])};have Jv:Conc (E5.frame E5.fr) V6 (Hs++(dx x deep c++[.part 1 [iv i] 3])):=by
  refine cy.ah.bu.zi (V':=V6) _ rfl (λ_ _ _ _ _ _ h=>h) (λg hg=> ?_) (λg hg=> ?_) (λhm=>by rw[cy.main]at hm;cases hm) cy.ah.bu.fr
  ·cases hg;exact⟨by show V5.own Wg≠none;rw[v1];simp,v2,v3⟩
  ·cases hg;exact⟨by show V5.own c≠none;rw[c1];simp,c2,c3⟩
 have oB:jv x deep Hs E c Wg rv dv fv (jB Hs Wg n i) [.part 1 [iv i] 3] E5 V6 (a5.put none undef):=⟨⟨Jv,cy.ah.tok,cy.ah.size⟩,cy.lo,cy.main,cy.defers,cy.deaf,cy.er,cy.ed,cy.ef,cy.dr,cy.dd,cy.df,cy.fr,cy.ne⟩;show WP true SA none _ _ (a5.put none undef) V6;refine oB.to (jB Hs Wg n (i+1)) [.part 1 [iv i] 3] ?_ λE7 V7 a7 oF Da=> ?_
 ·unfold jB dx;have hw:SD.wrap ((i:Int)+1)=(i:Int)+1:=bw _ (by omega);refine ai ?_;simp only[seval,hw];exact dz (by simp only[seval];simp[bm,Wk.refl]) rfl
 have fE:=jv.cut (M:=[]) (T':=jB Hs Wg n (i+1)) Da Au (by
  unfold jB;simp only[Xk,SZ,false_imp_iff,implies_true,and_true,look,ZA,if_false,if_true,Tm,exists_eq_left',Wk.refl,true_and,eC,abH,UW];omega) aq
 refine hQ _ V7 a7 ⟨fE,?_,?_,?_⟩
 ·rw[oF.role,arm]
 ·show E7.fr c=_;rw[oF.le.fr];exact wm
 ·show E7.fr Wg=_;rw[oF.le.fr];exact CM
end
namespace Tk
theorem acG{hs:List (List Int)}{h:List Int}(hn:hs.Nodup):(jL hs h).Nodup:=by
 unfold jL;split
 ·exact hn
 ·rename_i hm;rw[Vb];exact⟨hn,by simp,λa ha b hb=>by rw[S8.1 hb];exactλe=>hm (e▸ha)⟩
theorem ase{x:aj}{deep:Int}{Q:Kn}{t:List Int}(hn:Q.aK.Nodup):(eD x deep Q t).aK.Nodup:=by
 have hB:(jQ Q t).aK.Nodup:=by unfold jQ;split<;>exact hn
 unfold eD;dsimp only;generalize jQ Q t=R at hB;split
 ·exact hB
 ·split
  ·exact acG hB
  ·exact hB
theorem atb{x:aj}{deep:Int}{bh:Nat}:(gT x deep bh).aK.Nodup:=by
 unfold gT;have key:∀(ts:List (List Int))(Q:Kn),Q.aK.Nodup->(ts.foldl (eD x deep) Q).aK.Nodup:=by
  intro ts;induction ts with
  |nil=>exactλQ h=>h
  |cons t ts ih=>exactλQ h=>ih _ (ase h)
 exact key _ _ WS
theorem Ro:∀{l hs:List (List Int)},(∀y∈hs,y.length=4)->(∀y∈l,y.length=4)->∀y∈l.foldl jL hs,y.length=4
 |[],hs,h1,_=>h1
 |a::l,hs,h1,h2=>by rw[U4];exact Ro (acE h1 (h2 a (by simp))) (λy hy=>h2 y (by simp[hy]))
theorem HL{l m:List Nat}(h:l.length=m.length):(lS l m).length=l.length:=by simp[lS,h]
theorem HM{l m:List Nat}(h1:∀n∈l,n<65536)(h2:∀n∈m,n<65536):∀n∈lS l m,n<65536:=λn hn=>by
 unfold lS at hn;rw[UV]at hn;obtain⟨i,hi⟩:=hn;rw[List.getElem?_zipWith]at hi;cases ha:l[i]?with
 |none=>rw[ha]at hi;cases hi
 |some a=>
  cases hb:m[i]?with
  |none=>rw[ha,hb]at hi;cases hi
  |some b=>
   rw[ha,hb]at hi;cases hi;exact pP (h1 _ (S_ ha)) (h2 _ (S_ hb))
theorem abe{F G:Kn}{hs:List (List Int)}(hF:bL F)(hG:bL G)(hp:hs.Perm G.aK):bL (hO F hs G):=by
 unfold hO;split
 ·refine⟨(HL (by rw[hF.aC,hG.aC])).trans hF.aC,(HL (by rw[hF.hours,hG.hours])).trans hF.hours,(HL (by rw[hF.less,hG.less])).trans hF.less,(HL (by rw[hF.aU,hG.aU])).trans hF.aU,?_,HM hF.mo hG.mo,HM hF.mH hG.mH,HM hF.mP hG.mP,HM hF.lT hG.lT,Ro hF.h4 λy hy=>hG.h4 y (hp.mem_iff.1 hy)⟩;split
  ·exact hG.first
  ·exact hF.first
 ·exact hF
inductive nY (x:aj)(deep:Int):List Nat->Kn->Prop where
 |nil:nY x deep [] Kn.zero
 |snoc {js:List Nat} {F:Kn} {j:Nat} {hs:List (List Int)} (h:nY x deep js F) (hp:hs.Perm (gT x deep j).aK):nY x deep (js++[j]) (hO F hs (gT x deep j))
end Tk
theorem xI.work{x:aj}{deep:Int}{j:Nat}(hA:xI x)(hx:x.Ok)(hj:j<=3):bL (gT x deep j):=OS hx (hA j hj)
def mS (x:aj)(deep:Int)(n:Nat)(js:List Nat):List (List Spec):=(SU n).map λk=>if k∈js then[]else[qM x deep k]
theorem arp(x:aj)(deep:Int)(n:Nat):mS x deep n []=oT x deep n:=by simp[mS,oT]
theorem aro{x:aj}{deep:Int}{n j:Nat}{js:List Nat}{sp:Spec}{S:List Spec}(h:(mS x deep n js)[j]?=some (sp::S)):j<n/\j∉js/\sp=qM x deep j/\S=[]:=by
 unfold mS at h;rw[To]at h;obtain⟨k,h1,h2⟩:=Tq.1 h;have hk:j<n/\k=j:=by
  have:=SL.1 h1;obtain⟨h3,h4⟩:=this;simp at h3 h4;exact⟨h3,h4.symm⟩
 obtain⟨h3,rfl⟩:=hk;split at h2
 ·cases h2
 ·rename_i hm;cases h2;exact⟨h3,hm,rfl,rfl⟩
theorem arq{x:aj}{deep:Int}{n j:Nat}{js:List Nat}:(mS x deep n js).set j []=mS x deep n (js++[j]):=by
 apply Yr;intro k;unfold mS;rw[UU,To,To,S9,List.length_range];by_cases hk:k<n
 ·rw[XC hk];by_cases hj:j=k
  ·subst hj;rw[if_pos rfl,if_pos hk];simp
  ·rw[if_neg hj];have e:(k∈js++[j])<->k∈js:=by
    rw[SQ,S8];exact⟨λh=>h.elim id λe=>absurd e.symm hj,.inl⟩
   simp only[UT,e]
 ·have e:(SU n)[k]?=none:=Ux (by simp;omega);rw[e];by_cases hj:j=k
  ·subst hj;rw[if_pos rfl,if_neg hk];rfl
  ·rw[if_neg hj];rfl
theorem arn{x:aj}{deep:Int}{n:Nat}{js:List Nat}(h:∀S∈mS x deep n js,S=[]):∀k,k<n->k∈js:=λk hk=>by
 apply Tn;intro hn;have:=h [qM x deep k] (Te.2 ⟨k,by simpa using hk,by rw[if_neg hn]⟩);cases this
theorem amT{E:Env}{K:Kn}{mp b:Nat}(hb:E.blk mp=b)(hm:mp<E.n):ap E (.agg (K.l mp)) (.agg (sd K b).toArray):=by
 subst hb;refine .agg (by simp[Kn.l,sd]) λi a e=> ?_
 match i with
 |0=>cases e;exact .val _
 |1=>cases e;exact .mp hm
 |i+2=>
  have e':(K.l mp)[i+2]?=((K.aC.map (λn:Nat=>SF .u16 n)++(K.hours.map (λn:Nat=>SF .u16 n)++(K.less.map (λn:Nat=>SF .u16 n)++(K.aU.map (λn:Nat=>SF .u16 n)++K.first.map (SF .i64))))).map AV.val)[i]?:=by
   simp[Kn.l,wv,iv,YB]
  rw[e',To]at e;obtain⟨z,h1,rfl⟩:=Tq.1 e;have h2:(sd K (E.blk mp))[i+2]?=some z:=h1;rw[SH,Vl,h2];exact .val _
theorem vg(K:Kn)(mp:Nat):∀a∈K.l mp,a.leaf=true:=λa ha=>by
 simp only[Kn.l,SK,SQ,Te]at ha;rcases ha with rfl|rfl|⟨_,_,rfl⟩|⟨_,_,rfl⟩|⟨_,_,rfl⟩|⟨_,_,rfl⟩|⟨_,_,rfl⟩<;>rfl
theorem agm{lv:Bool}{P:SI}{r:Option Nat}{nt:Nat}{E:Env}{V:View}{a:Act}{s:AS}{c:T7}{Q:Ex->Act->View->Prop}{α:Type}(p:α->Prop)(S3:α->AS)(ah:At E V s a nt)(h:aP lv P r nt c s (λe s'=>match e with|.normal=>∃q,p q/\s'.Sub (S3 q)|_=>False))(hQ:∀q E' V' a',p q->Kept E E' V V' a a'->At E' V' (S3 q) a' nt->Q .normal a' V'):WP lv P r c Q a V:=
 h E V a Q ah λae e E' V' a' s' hk aT he hΦ=>by
  cases ae<;>cases e<;>first
   |exact he.elim
   |exact hΦ.elim
   |(obtain⟨q,h1,h2⟩:=hΦ
     exact hQ q E' V' a' h1 hk (aT.sub h2))
theorem ahy{E:Env}(l:List SP):ap E (.agg (l.map .val)) (.agg l.toArray):=by
 refine .agg (by simp) λi a e=> ?_;rw[To]at e;obtain⟨z,h1,rfl⟩:=Tq.1 e;rw[SH,Vl,h1];exact .val _
def O6:List SP:=.bool false:: .map none::(TJ 15 (.int .u16 0)++TJ 11 (.int .i64 0))
def iz (Hs:List aa)(F:Kn):List aa:=[setH F.aK,.cells (F.l (Hs.length+5)) 88]
noncomputable def jp (Hs:List aa):List (Nat×AV):=[(8,.op (Hs.length+6) 0),(5,.op (Hs.length+3) 0),(4,.op (Hs.length+2) 0)]
structure Ff (x:aj)(deep:Int)(n:Nat)(Hs:List aa)(E:Env)(c Wg:Nat)(rv dv fv:SP)(js:List Nat)(F:Kn)(T:List (Nat×AV))(G:List aa)(E':Env)(V':View)(a':Act):Prop where
 ok:jv x deep Hs E c Wg rv dv fv T (iz Hs F++G) E' V' a'
 role:V'.role=.recv c Wg (mS x deep n js)
 abf:nY x deep js F
 kn:bL F
 nodup:js.Nodup
 lt:∀j∈js,j<n
noncomputable def abm:T7:=ci (ci (cs (cs (cs ml))))
theorem amU{x:aj}{deep:Int}{Hs:List aa}{c:Nat}{F:Kn}(hH:bH Hs):bH (Hs++(dx x deep c++iz Hs F)):=by
 refine abn hH λz hz=> ?_;simp only[iz,SK,SZ,or_false]at hz;rcases hz with rfl|rfl
 ·trivial
 ·exact yQ (by simp[iz])
theorem anV{V:View}{Im:cx}{b:Nat}{K:Kn}{w:Tp}(hS:Sat V w)(hI:∀b o x,Im b o=some x->w.cell? ⟨b,o,none⟩=some x)(hb:w.heap[b]?=some (r_ K)):∀o,V.ab b o=none/\Im b o=none:=λo=>by
 have hc:w.cell? ⟨b,o,none⟩=none:=by simp[UA,hb,r_]
 constructor
 ·cases h:V.ab b o with
  |none=>rfl
  |some v=>have:=hS.ab b o v h;rw[hc]at this;cases this
 ·cases h:Im b o with
  |none=>rfl
  |some v=>have:=hI b o v h;rw[hc]at this;cases this
section
variable {x:aj}{deep:Int}{n:Nat}{Hs:List aa}{E:Env}{c Wg:Nat}{js:List Nat}{D:Kn}{rv dv fv:SP}{T T':List (Nat×AV)}{G G':List aa}{E1 E2:Env}{V1 V2:View}{a1 a2:Act}
theorem amW(hx:x.Ok)(hA:xI x)(hn4:n<=4)(Au:E.n<=Hs.length)(bJ:bH Hs)(h:Ff x deep n Hs E c Wg rv dv fv js D (jp Hs) [] E1 V1 a1){Q:Ex->Act->View->Prop}
  (hQ:∀j D' E2 V2 a2,j∉js->Ff x deep n Hs E c Wg rv dv fv (js++[j]) D' (jp Hs) [] E2 V2 a2->Q .normal a2 V2)
  (F':∀E2 V2 a2 G,At E2 V2 ⟨[(4,.op (Hs.length+2) 0)],Hs++([.part 6 x.l 76,.part 1 [iv deep] 3,.cells (D.l (Hs.length+5)) 88,.part 1 [.val (.chan (some c))] 139,.gone,setH D.aK]++G)⟩ a2 35->E.Lo E2->a2.defers=[]->V2.deaf=0->V2.role=.plain->(∀b y,E.fr b=some y->E2.fr b=some y)->(∀k,k<n->k∈js)->Q .ret a2 V2):WP true SA none abm Q a1 V1:=by
 refine wp_block (id:=3) (wp_seq ?_);refine IC (K:=λs'=>look s'.T 26=some (.val (.chan (some c)))/\s'.Sub ⟨jp Hs,Hs++(dx x deep c++(iz Hs D++[]))⟩) 1 7 rfl (by kernel_rfl) h.ok.ah ?_ λE3 V3 a3 s3 wL qi hK=> ?_
 ·unfold jp dx iz;(try simp only[seval]);exact dz (by simp only[seval];simp[bm,Wk.refl]) rfl
 obtain⟨l26,lN⟩:=hK;have dQ:=h.ok.step wL (qi.sub lN);have ro3:V3.role=.recv c Wg (mS x deep n js):=wL.role.trans h.role;have e26:a3.eval (.tmp 26)=.chan (some c):=uy (qi.tok 26 _ l26).2;obtain⟨ti,wV,hzi⟩:=Tg.1 F.Pj;refine atg rfl rfl (.inr ?_);refine⟨rfl,c,Wg,mS x deep n js,.both,88,ti,_,e26,by kernel_rfl,wV,hzi,ro3,dQ.deaf,λj sp S v Im Ow r1 r2 r3 r4 r5=> ?_,λhS=> ?_⟩
 ·
  obtain⟨py,iF,rfl,rfl⟩:=aro r1;obtain⟨b,hv,KT⟩:=r2;have yh:bL (gT x deep j):=hA.work hx (by omega);have Sb:(gT x deep j).aK.Nodup:=atb;obtain⟨W,hW⟩:∃W,W=gT x deep j:=⟨_,rfl⟩;rw[<- hW]at hv KT yh Sb;let pZ:View:={V3 with ab:=λb o=>match V3.ab b o with|some x=>some x|none=>Im b o,role:=.recv c Wg ((mS x deep n js).set j [])};obtain⟨abq,Qh⟩:=dQ.ah.bu.anm (V':=pZ) rfl (λb o v e=>by show (match V3.ab b o with|some x=>some x|none=>Im b o)=some v;rw[e]) (λb o hb e=>by
   show (match V3.ab b o with|some x=>some x|none=>Im b o)=none;rw[e];apply Tn;intro aF;exact absurd e (r4 b o hb aF)) rfl rfl (λhm=>by rw[dQ.main]at hm;cases hm)
  have KS:Ow b=some (r_ W):=by rw[KT];simp
  obtain⟨w,hSw,hIw,hww⟩:=r5;have ji:=anV hSw hIw (hww b _ KS);have ew:V3.own b=none:=by
   apply Tn;intro aF;have:=r3 b aF;rw[KS]at this;cases this
  have Ln:pZ.fresh b:=⟨ew,λo=>by
   show (match V3.ab b o with|some x=>some x|none=>Im b o)=none;rw[(ji o).1];exact(ji o).2⟩
  have alo:E3.n=Hs.length+7:=by rw[dQ.ah.bu.n];simp[dx,iz]
  have sW:=Qh.add Ln (r_ W) (x:=.obj (r_ W)) ⟨by rw[Env.dM];simp[View.upd],rfl,rfl,λo=>by rw[Env.dM];exact Ln.2 o⟩ (λb' e=>by
   simp only[bO,Env.dM,Tm]at e;exact e.symm)
  have R9:pZ.upd b (r_ W)={V3 with ab:=λb o=>match V3.ab b o with|some x=>some x|none=>Im b o,own:=λb=>match V3.own b with|some x=>some x|none=>Ow b,role:=.recv c Wg ((mS x deep n js).set j [])}:=by
   have:(λb'=>if b'=b then some (r_ W)else V3.own b')=λb=>match V3.own b with|some x=>some x|none=>Ow b:=by
    funext b';by_cases hb:b'=b
    ·subst hb;rw[if_pos rfl,ew,KS]
    ·rw[if_neg hb];cases dI:V3.own b' with
     |some y=>rfl
     |none=>simp[KT,hb]
   show View.mk _ _ _ _=View.mk _ _ _ _;congr 1
  have RY:(({E3 with I:=pZ.ab}:Env).add b pZ.ab).blk (Hs.length+7)=b:=by rw[<- alo];exact Env.dM ({E3 with I:=pZ.ab}:Env) b _
  have Nc:E3.Le (({E3 with I:=pZ.ab}:Env).add b pZ.ab):=abq.trans (Env.qF _ b λ_ _ _ e=>e);have alu:(({E3 with I:=pZ.ab}:Env).add b pZ.ab).n=Hs.length+8:=by show E3.n+1=_;omega
  rw[R9]at sW;generalize hE4:(({E3 with I:=pZ.ab}:Env).add b pZ.ab)=E4 at sW RY Nc alu;have bk:ap E4 (.aN [.agg (W.l (Hs.length+7)),bv true]) (.tuple #[v,.bool true]):=by
   subst hv;refine .aN rfl λq a e=> ?_
   match q,e with
   |0,e=>cases e;exact amT RY (by omega)
   |1,e=>cases e;exact .val _
  have aku:Hs++(dx x deep c++(iz Hs D++[]))++[aa.obj (r_ W)]=Hs++(dx x deep c++(iz Hs D++[setH W.aK])):=by simp[setH,r_]
  rw[aku]at sW;clear R9 hE4 Qh abq Ln;generalize R_:({V3 with ab:=λb o=>match V3.ab b o with|some x=>some x|none=>Im b o,own:=λb=>match V3.own b with|some x=>some x|none=>Ow b,role:=.recv c Wg ((mS x deep n js).set j [])}:View)=V4 at sW;have H6:V4.role=.recv c Wg (mS x deep n (js++[j])):=by rw[<- R_];show mX.recv c Wg _=_;rw[arq]
  have de4:V4.deaf=V3.deaf:=by rw[<- R_]
  have rD:At E4 V4 ⟨(27,.aN [.agg (W.l (Hs.length+7)),bv true])::jp Hs,Hs++(dx x deep c++(iz Hs D++[setH W.aK]))⟩ (a3.put (some 27) (.tuple #[v,.bool true])) 35:=⟨sW,(dQ.ah.tok.mono Nc).put (by rw[dQ.ah.size];omega) bk,(dX a3 (some 27) _).trans dQ.ah.size⟩;have l9:jv x deep Hs E c Wg rv dv fv ((27,.aN [.agg (W.l (Hs.length+7)),bv true])::jp Hs) (iz Hs D++[setH W.aK]) E4 V4 (a3.put (some 27) (.tuple #[v,.bool true])):=
   dQ.Ik Nc (put_defers a3 _ _) de4 rD
  have Ga:=Kn.len yh (Hs.length+7);refine OY ⟨(10,bv true)::(9,.op (Hs.length+8) 0)::jp Hs,Hs++(dx x deep c++(iz Hs D++[setH W.aK,.cells (W.l (Hs.length+7)) 88]))⟩ rfl (by kernel_rfl) rD ?_ λE5 V5 a5 gz j_=> ?_
  ·unfold jp dx iz;(try simp only[seval,Ga]);exact⟨vg _ _,dz (by simp only[seval];simp[bm,Wk.refl]) rfl⟩
  have cy:=l9.step gz j_;have Eo:V5.role=.recv c Wg (mS x deep n (js++[j])):=gz.role.trans H6;refine wp_seq (wp_seq ?_);refine cy.to ((31,bv false)::(9,.op (Hs.length+8) 0)::jp Hs) (iz Hs D++[setH W.aK,.cells (W.l (Hs.length+7)) 88]) ?_ λE6 V6 a6 LK oB=> ?_
  ·unfold jp dx iz;refine ak ?_;exact dz (by simp only[seval];simp[bm,Wk.refl]) rfl
  refine OU oB.ah rfl ?_;refine wp_skip ?_;refine agm (λhs:List (List Int)=>hs.Perm W.aK) (λhs=>⟨jp Hs,Hs++(dx x deep c++(iz Hs (hO D hs W)++[setH W.aK,.cells (W.l (Hs.length+7)) 88]))⟩) oB.ah ?_ λhs E7 V7 a7 L_ oF K3=> ?_
  ·unfold jp dx iz;refine ai ?_;simp only[seval,Ga];rw[SS (i:=28) (by omega)];refine aJ ((ais (fp:=Hs.length+6) (mp:=Hs.length+5) (mg:=Hs.length+7) h.kn yh (by omega) (by omega) (by rw[aY];rfl) (by rw[aY];rfl) (by rw[aY];rfl) Sb ?_));intro hs hp;rw[dJ,dJ];(try simp only[seval]);exact⟨hs,hp,dz (by simp only[seval];simp[bm,Wk.refl]) rfl⟩
  have Da:=oB.step oF K3;have fE:=jv.cut (T':=jp Hs) Da Au (by
   unfold jp iz;simp only[Xk,SZ,false_imp_iff,implies_true,and_true,look,ZA,if_false,if_true,Tm,exists_eq_left',Wk.refl,true_and,abH,Un,UW];omega) (amU bJ)
  have jD:nY x deep (js++[j]) (hO D hs W):=by
   rw[hW]at L_⊢;exact h.abf.snoc L_
  refine hQ j (hO D hs W) _ V7 a7 iF ⟨by rw[SN];exact fE,?_,jD,abe h.kn yh L_,?_,?_⟩
  ·rw[oF.role,LK.role];exact Eo
  ·rw[Vb];exact⟨h.nodup,by simp,λa ha b hb=>by rw[S8.1 hb];exactλe=>iF (e▸ha)⟩
  ·intro k hk;rcases SQ.1 hk with h'|h'
   ·exact h.lt k h'
   ·rw[S8.1 h'];exact py
 ·
  have fD:=arn hS;let V4:View:={V3 with role:=.plain};have sW:Conc (E3.frame E3.fr) V4 (Hs++(dx x deep c++(iz Hs D++[]))):=
   dQ.ah.bu.zi (V':=V4) _ rfl (λ_ _ _ _ _ _ h=>h) (λg hg=>by cases hg) (λg hg=>by cases hg) (λhm=>by rw[dQ.main]at hm;cases hm) dQ.ah.bu.fr
  have bk:ap E3 (.aN [.agg jr,bv false]) (.tuple #[.agg O6.toArray,.bool false]):=by
   refine .aN rfl λq a e=> ?_
   match q,e with
   |0,e=>cases e;exact ahy O6
   |1,e=>cases e;exact .val _
  have rD:At E3 V4 ⟨(27,.aN [.agg jr,bv false])::jp Hs,Hs++(dx x deep c++(iz Hs D++[]))⟩ (a3.put (some 27) (.tuple #[.agg O6.toArray,.bool false])) 35:=⟨sW,dQ.ah.tok.put (by rw[dQ.ah.size];omega) bk,(dX a3 (some 27) _).trans dQ.ah.size⟩;have l9:=dQ.Ik (V2:=V4) (Env.Le.refl E3) (put_defers a3 (some 27) _) rfl rD;have jY:jr.length=28:=rfl;have fq:=Kn.len h.kn (Hs.length+5);refine OY ⟨(10,bv false)::jp Hs,Hs++(dx x deep c++(iz Hs D++[.cells jr 88]))⟩ rfl (by kernel_rfl) rD ?_ λE5 V5 a5 gz j_=> ?_
  ·unfold jp dx iz;(try simp only[seval,jY]);exact⟨λa ha=>by simp only[jr,SK,SQ,XB]at ha;rcases ha with rfl|rfl|⟨_,rfl⟩|⟨_,rfl⟩<;>rfl,dz (by simp only[seval];simp[bm,Wk.refl]) rfl⟩
  have cy:=l9.step gz j_;refine wp_seq (wp_seq ?_);refine cy.to ((31,bv true)::jp Hs) (iz Hs D++[.cells jr 88]) ?_ λE6 V6 a6 LK oB=> ?_
  ·unfold jp dx iz;refine ak ?_;exact dz (by simp only[seval];simp[bm,Wk.refl]) rfl
  refine OU oB.ah rfl ?_;refine wp_seq ?_;refine zV ⟨[(4,.op (Hs.length+2) 0)],Hs++([.part 6 x.l 76,.part 1 [iv deep] 3,.cells (D.l (Hs.length+5)) 88,.part 1 [.val (.chan (some c))] 139,.gone,setH D.aK]++[.cells (D.l (Hs.length+5)) 88,.cells jr 88])⟩ oB.ah ?_ λE7 V7 a7 oF K3=> ?_
  ·unfold jp dx iz;refine ai ?_;simp only[seval,fq,jY];rw[SS (i:=28) (l:=D.l (Hs.length+5)) (by omega)];exact⟨fq,by omega,vg _ _,dz (by simp only[seval];simp[bm,Wk.refl]) (by rw[fq,TY (by rw[jY];exact SO _),SN])⟩
  refine wp_ret ?_;exact F' E7 V7 a7 _ K3 (oB.lo.trans oF.le.lo) (oF.defers.trans oB.defers) (oF.deaf.trans oB.deaf) (oF.role.trans (LK.role.trans gz.role)) (λb y e=>by rw[oF.le.fr];exact(oB.fr b y e).1) fD
end
open Go.Conc Go.Proofs Go.Gg.Tk
theorem aqo{P:SI}{rs:List UQ}{fn:YH}{nt:Nat}{k kp:AV->List aa->Prop}{E E':Env}{V V':View}{H L G:List aa}{T:List (Nat×AV)}{a':Act}{av:AV}(hr:fn.results=rs.toArray)(ah:At E' V' ⟨T,H.map strip++(L++G)⟩ a' nt)(pz:E.Lo E')(hc:Conc E V H)(ce:V'.role=V.role)(eT:V'.deaf=V.deaf)(hf:∀b y,E.fr b=some y->E'.fr b=some y)
  (gA:ie P ⟨T,H.map strip++(L++G)⟩ rs=some [av]) (hL:L.map strip=L) (aq:bH (H.map strip++L)) (hlt:Lt (H.length+L.length) av) (hk:k av (H++L)):∃v,aQ P V' (results fn a'.tmps) (λx aS=>x=v/\aS=V') (λ_ _=>False)/\gW E V k kp (.ret v) V':=by
 obtain⟨vs,hl,lQ,yD⟩:=H2 ah rs [av] gA;obtain⟨v,rfl⟩:∃v,vs=[v]:=List.length_eq_one_iff.1 hl;have bk:ap E' av v:=lQ 0 av rfl;have qA:aQ P V' (results fn a'.tmps) (λx aS=>x=v/\aS=V') (λ_ _=>False):=by
  unfold results;rw[hr,X2];refine az ?_;refine az (yD ?_);refine au (au ⟨?_,rfl⟩);simp
 have K_:=ah.bu;dsimp only at K_;rw[<- SC]at K_;have fE:=K_.trim (H:=H.map strip++L) (G:=G) aq;have hlen:(H.map strip++L).length=H.length+L.length:=by simp
 rw[hlen]at fE;have uV:(H++L).map strip=H.map strip++L:=by rw[TG,hL]
 rw[<- uV]at fE;refine⟨v,qA,av,((({E' with n:=H.length+L.length}:Env).fe E.main).frame E.fr),H++L,?_,ce,eT,?_,fE.aqf E.main E.fr (λk e=> ?_) (λe=>by rw[ce,eT];exact hc.top e) hf,hk⟩
 ·refine Env.Lo.le (E':={E' with n:=H.length+L.length}) ⟨pz.I,?_,pz.blk,pz.fz,pz.room⟩;show E.n<=H.length+L.length;rw[hc.n];omega
 ·exact((bk.trim hlt).fe E.main).frame E.fr
 ·by_cases Do:k<H.length
  ·rw[SX Do]at e;exact hc.obj k _ e
  ·rw[Ta (by omega)]at e;have h2:(L.map strip)[k-H.length]?=some .gone:=(by rw[To,e];rfl);rw[hL,e]at h2;cases h2
section
variable {x:aj}{deep:Int}{Hs:List aa}{E:Env}{c Wg p:Nat}{rv dv fv:SP}{T:List (Nat×AV)}{E1:Env}{V1:View}{a1:Act}
theorem amX(hx:x.Ok)(hA:xI x)(hp:x.am=p)(Au:E.n<=Hs.length)(bJ:bH Hs)(h:vS x deep Hs E c Wg rv dv fv 0 [(6,.val (pW Wg 0)),(5,.op (Hs.length+3) 0),(4,.op (Hs.length+2) 0),(3,.op (Hs.length+1) 0),(2,.op Hs.length 0)] [] E1 V1 a1){Q:Ex->Act->View->Prop}
  (hQ:∀js D E2 V2 a2 G,js.Perm (SU (p+1))->nY x deep js D->bL D->At E2 V2 ⟨[(4,.op (Hs.length+2) 0)],Hs++([.part 6 x.l 76,.part 1 [iv deep] 3,.cells (D.l (Hs.length+5)) 88,.part 1 [.val (.chan (some c))] 139,.gone,setH D.aK]++G)⟩ a2 35->E.Lo E2->a2.defers=[]->V2.deaf=0->V2.role=.plain->(∀b y,E.fr b=some y->E2.fr b=some y)->Q .ret a2 V2):WP true SA none ml Q a1 V1:=by
 have hp3:p<=3:=by have:=hx.am;omega
 have alG:bH (Hs++(dx x deep c++[])):=abn bJ (by simp);refine wp_seq (x:=cf ml) (wp_seq (x:=cf (cf ml)) ?_);refine h.ok.to (jB Hs Wg ((p+1:Nat):Int) 0) [] ?_ λE2 V2 a2 cH cO=> ?_
 ·show aP true SA none 35 (cf (cf ml)) _ _;unfold jB dx;have bP:x.l=[iv x.first,iv x.hours,iv x.am,cY x.seen,aL x.pieces,aL x.aA]:=rfl;have hw:SD.wrap (x.am+1)=((p+1:Nat):Int):=by rw[hp,bw _ (by omega)];rfl
  refine ai ?_;simp only[seval,bP,hw];exact dz (by simp only[seval];simp[bm,Wk.refl]) rfl
 have h2:vS x deep Hs E c Wg rv dv fv 0 (jB Hs Wg ((p+1:Nat):Int) 0) [] E2 V2 a2:=h.step cH cO;refine wp_block (id:=0) (c:=.loop (ci (ci (cs (cf ml))))) ?_;refine wp_loop (λm a' V'=>∃E' i,m=p+1-i/\i<=p+1/\vS x deep Hs E c Wg rv dv fv i (jB Hs Wg ((p+1:Nat):Int) i) [] E' V' a') (p+1) ⟨E2,0,rfl,by omega,h2⟩ λm a3 V3 hI=> ?_;obtain⟨E3,i,rfl,hi,h3⟩:=hI;refine wp_seq (x:=cf (ci (ci (cs (cf ml))))) (y:=cs (ci (ci (cs (cf ml))))) ?_;refine h3.ok.to ((17,bv (decide ((i:Int)<((p+1:Nat):Int))))::jB Hs Wg ((p+1:Nat):Int) i) [] ?_ λE4 V4 a4 rJ l9=> ?_
 ·show aP true SA none 35 (cf (ci (ci (cs (cf ml))))) _ _;unfold jB dx;refine ak ?_;exact dz (by simp only[seval];simp[bm,Wk.refl]) rfl
 have ry:=h3.step rJ l9;refine wp_seq (x:=.cond (.tmp 17) .skip (.exit 0)) (y:=cs (cs (ci (ci (cs (cf ml)))))) (OU l9.ah rfl ?_);by_cases hik:i<p+1
 ·rw[show decide ((i:Int)<((p+1:Nat):Int))=true from decide_eq_true (by omega)];refine wp_skip ?_;have akE:jv x deep Hs E c Wg rv dv fv (jB Hs Wg ((p+1:Nat):Int) i) [] E4 V4 a4:=l9.Ik (Env.Le.refl E4) rfl rfl (l9.ah.sub (dz (by unfold jB dx;simp only[seval];simp[bm,Wk.refl]) rfl));exact amV hx hA Au alG ⟨akE,ry.role,ry.FY,ry.CL⟩ (by omega) rfl λE5 V5 a5 h5=>⟨p+1-(i+1),by omega,E5,i+1,rfl,by omega,h5⟩
 have dD:i=p+1:=by omega
 subst dD;rw[show decide ((((p+1:Nat):Int))<((p+1:Nat):Int))=false by simp];refine wp_exit ?_;refine wp_seq (x:=cf (cs ml)) (y:=cs (cs ml)) ?_;refine IC (K:=λs'=>look s'.T 22=some (.fn (.func 100) [] [.val (pW Wg 0),.op (Hs.length+3) 0])/\s'.Sub ⟨[(5,.op (Hs.length+3) 0),(4,.op (Hs.length+2) 0)],Hs++(dx x deep c++[])⟩) 1 1 rfl (by kernel_rfl) l9.ah ?_ λE5 V5 a5 s5 gz j_ hK=> ?_
 ·unfold jB dx;(try simp only[seval,Ub,UE,Uj,TR]);exact dz (by simp only[seval];simp[bm,Wk.refl]) rfl
 obtain⟨M8,lN⟩:=hK;have cy:=l9.step gz (j_.sub lN);have Eo:V5.role=.fork c Wg (oT x deep (p+1)):=gz.role.trans ry.role;have wm:E5.fr c=some sV:=by rw[gz.le.fr];exact ry.FY
 have CM:E5.fr Wg=some (wgBlock SA (((p+1:Nat):Int)* 4294967296) 0):=by rw[gz.le.fr];exact ry.CL
 obtain⟨c1,c2,c3⟩:=cy.ah.bu.fr c _ wm;obtain⟨v1,v2,v3⟩:=cy.ah.bu.fr Wg _ CM;have e22:a5.eval (.tmp 22)=.func (.func 100) #[] #[pW Wg 0,fv]:=by
  obtain⟨fa,ca,q1,q2,q3⟩:=Qt (j_.tok 22 _ M8).2;rw[FK q2]at q1;refine q1.trans ?_;have fX:ca.size=2:=q3.1;have k0:=uy (q3.2 0 _ rfl);have k1:=CD (q3.2 1 _ rfl);rw[<- cy.ef]at k1;congr 1;refine Array.ext fX λj h1 h2=> ?_;have hj:j=0\/j=1:=by omega
  rw[SH,SJ (by omega)]at k0 k1;rcases hj with rfl|rfl
  ·exact k0
  ·exact k1
 have hfc:V5.ab (E5.blk (Hs.length+3)) 0=some (.chan (some c)):=by
  have bA:=cy.df;rw[cy.ef]at bA;generalize hp:(Value.pointer (some ⟨E5.blk (Hs.length+3),0,none⟩))=pv at bA;cases bA with
  |rp b o f h1 h2=>
   cases hp;have:=h1 0 (by simp);rw[cy.ah.bu.I]at this;rw[UI]at this;rw[this,uy (h2 0 _ rfl)]
 refine OX rfl rfl ?_;refine⟨rfl,.tmp 22,100,#[],_,rfl,e22,cy.deaf,.inr ⟨c,Wg,_,Eo,cy.ne,c1,?_,c2,v2,?_,?_⟩⟩
 ·rw[v1,On]
 ·have:=ahh Wg (E5.blk (Hs.length+3)) c (Im:=V5.ab) hfc;rw[cy.ef];simpa[pW]using this
 let V6:View:={V5 with own:=λb=>if b=c\/b=Wg then none else V5.own b,role:=.recv c Wg (oT x deep (p+1))};let f6:Nat->Option Obj:=λb=>if b=c\/b=Wg then none else E5.fr b;have Jv:Conc (E5.frame f6) V6 (Hs++(dx x deep c++[])):=by
  refine cy.ah.bu.zi (V':=V6) _ rfl (λb z k w hk kE hz=> ?_) (λg hg=>by cases hg) (λg hg=>by cases hg) (λhm=>by rw[cy.main]at hm;cases hm) (λb y hb=> ?_)
  ·have n1:b≠c:=cy.ah.bu.Ef wm hk kE;have n2:b≠Wg:=cy.ah.bu.Ef CM hk kE;show (if b=c\/b=Wg then none else V5.own b)=some z;rw[if_neg (λe=>e.elim n1 n2)];exact hz
  ·by_cases AB:b=c\/b=Wg
   ·simp only[f6,if_pos AB]at hb;cases hb
   ·simp only[f6,if_neg AB]at hb;obtain⟨q1,q2,q3⟩:=cy.ah.bu.fr b y hb;refine⟨?_,q2,q3⟩;show (if b=c\/b=Wg then none else V5.own b)=some y;rw[if_neg AB];exact q1
 have oB:jv x deep Hs E c Wg rv dv fv [(5,.op (Hs.length+3) 0),(4,.op (Hs.length+2) 0)] [] (E5.frame f6) V6 (a5.put none undef):=by
  refine⟨⟨Jv,cy.ah.tok.frame _,cy.ah.size⟩,cy.lo.trans (Env.Hu E5 f6),cy.main,cy.defers,cy.deaf,cy.er,cy.ed,cy.ef,cy.dr.frame f6,cy.dd.frame f6,cy.df.frame f6,λb y e=> ?_,cy.ne⟩;obtain⟨q1,q2,q3⟩:=cy.fr b y e;refine⟨?_,q2,q3⟩;show (if b=c\/b=Wg then none else E5.fr b)=some y;rw[if_neg (λe=>e.elim q2 q3)];exact q1
 show WP true SA none (.seq (cf (cs (cs ml))) (cs (cs (cs ml)))) Q (a5.put none undef) V6;refine wp_seq ?_;refine oB.to (jp Hs) (iz Hs Kn.zero) ?_ λE7 V7 a7 oF Da=> ?_
 ·show aP true SA none 35 (cf (cs (cs ml))) _ _;unfold jp dx iz;refine ak ?_;exact dz (by simp only[seval];simp[bm,Wk.refl]) rfl
 refine wp_block (id:=2) (c:=.loop abm) ?_;have cK:Ff x deep (p+1) Hs E c Wg rv dv fv [] Kn.zero (jp Hs) [] E7 V7 a7:=⟨by rw[SN];exact Da,by rw[oF.role,arp],.nil,D2,WS,λj hj=>by cases hj⟩;refine wp_loop (λm a' V'=>∃E' js D,m=p+1-js.length/\Ff x deep (p+1) Hs E c Wg rv dv fv js D (jp Hs) [] E' V' a') _ ⟨E7,[],Kn.zero,rfl,cK⟩ λm a8 V8 hI=> ?_;obtain⟨E8,js,D,rfl,h8⟩:=hI;have hlen:∀js:List Nat,js.Nodup->(∀j∈js,j<p+1)->js.length<=p+1:=λjs hn hl=>by
  have:=hn.length_le_of_subset (l₂:=SU (p+1)) λj hj=>by simpa using hl j hj
  simpa using this
 refine amW hx hA (by omega) Au bJ h8 (λj D' E9 V9 a9 hj h9=> ?_) λE9 V9 a9 G akx Nj JH Jw Oa x_ fD=> ?_
 ·have h1:=hlen _ h9.nodup h9.lt;simp only[S5,T_]at h1;exact⟨p+1-(js++[j]).length,by simp;omega,E9,js++[j],D',rfl,h9⟩
 ·have Mb:js.Perm (SU (p+1)):=by
   refine(List.perm_ext_iff_of_nodup h8.nodup XZ).2 λk=> ?_;rw[Tx];exact⟨h8.lt k,fD k⟩
  exact hQ js D E9 V9 a9 G Mb h8.abf h8.kn akx Nj JH Jw Oa x_
end
theorem ajc{x:aj}{deep:Int}{p:Nat}{H:List aa}{k kp:AV->List aa->Prop}(hx:x.Ok)(hA:xI x)(hp:x.am=p)(hm:H[0]?=some .main)(hk:∀js D L,js.Perm (SU (p+1))->nY x deep js D->bL D->L.length=5->k (.agg (D.l (H.length+5))) (H++(L++[setH D.aK]))):bf true SA 77 H [x.av,iv deep] k kp:=by
 intro E V vs hc hd;have hEm:E.main=true:=hc.obj 0 _ hm;obtain⟨jl,uL⟩:=hc.top hEm;have hn:E.n=H.length:=hc.n;refine PZ (by simp) F.f77 rfl ?_;have tn:At (E.fe false) V ⟨[(0,x.av),(1,iv deep)],H.map strip⟩ {tmps:=vs++TN (XQ.ntmps-vs.size) undef,defers:=[]} 35:=by
  have:=Ct (nt:=35) hc hd (by simp);exact⟨hc.ahu,this.tok.fe false,this.size⟩
 have hlen:(H.map strip).length=H.length:=S9 _;have L4:bH (H.map strip):=tn.bu.aq
 suffices pA:∀Hs,H.map strip=Hs->WP true SA none vk (Ends SA XQ (gW E V k kp)) {tmps:=vs++TN (XQ.ntmps-vs.size) undef,defers:=[]} V from pA _ rfl
 intro Hs bJ;rw[bJ]at tn hlen L4;have Sk:({tmps:=vs++TN (XQ.ntmps-vs.size) undef,defers:=[]}:Act).defers=[]:=rfl;generalize({tmps:=vs++TN (XQ.ntmps-vs.size) undef,defers:=[]}:Act)=a0 at tn Sk;have bP:x.l=[iv x.first,iv x.hours,iv x.am,cY x.seen,aL x.pieces,aL x.aA]:=rfl;refine wp_seq (x:=cf vk) (y:=cs vk) ?_;refine zV ⟨[(4,.op (Hs.length+2) 0),(3,.op (Hs.length+1) 0),(2,.op Hs.length 0)],Hs++[.cells x.l 76,.cells [iv deep] 3,.cells jr 88]⟩ tn ?_ λE2 V2 a2 cH uI=> ?_
 ·show aP true SA none 35 (cf vk) _ _;simp only[aj.av];refine ak ?_;exact dz (by simp only[seval];simp[bm,Wk.refl]) rfl
 obtain⟨ti,wV⟩:∃i,SA.info? 88=some i:=Option.isSome_iff_exists.1 (by kernel_rfl);refine wp_seq (x:=cf (cs vk)) (y:=cs (cs vk)) (aet rfl rfl (aoJ rfl (d:=.both) (el:=88) (by kernel_rfl) wV λc wC=> ?_));let f3:Nat->Option Obj:=λb=>if b=c then some sV else E2.fr b;have qi:At (E2.frame f3) (V2.upd c sV) ⟨[(11,.val (.chan (some c))),(4,.op (Hs.length+2) 0),(3,.op (Hs.length+1) 0),(2,.op Hs.length 0)],Hs++[.cells x.l 76,.cells [iv deep] 3,.cells jr 88]⟩ (a2.put (some 11) (.chan (some c))) 35:=
  ⟨uI.bu.ajZ wC sV,(uI.tok.frame _).put (by rw[uI.size];omega) (.val _),(dX a2 (some 11) _).trans uI.size⟩
 refine OY ⟨[(5,.op (Hs.length+3) 0),(4,.op (Hs.length+2) 0),(3,.op (Hs.length+1) 0),(2,.op Hs.length 0)],Hs++[.cells x.l 76,.cells [iv deep] 3,.cells jr 88,.cells [.val (.chan (some c))] 139]⟩ rfl (by kernel_rfl) qi ?_ λE4 V4 a4 rJ rD=> ?_
 ·(try simp only[seval,ao0,att,am6]);exact dz (by simp only[seval];simp[bm,Wk.refl]) rfl
 refine wp_seq (x:=cf (cs (cs vk))) (y:=ml) ?_;refine zV ⟨[(6,.op (Hs.length+4) 0),(5,.op (Hs.length+3) 0),(4,.op (Hs.length+2) 0),(3,.op (Hs.length+1) 0),(2,.op Hs.length 0)],Hs++[.cells x.l 76,.cells [iv deep] 3,.cells jr 88,.cells [.val (.chan (some c))] 139,.cells [.val (.int .u64 0),.val (.int .u32 0)] 147]⟩ rD ?_ λE5 V5 a5 gz j_=> ?_
 ·show aP true SA none 35 (cf (cs (cs vk))) _ _;refine ak ?_;exact dz (by simp only[seval];simp[bm,Wk.refl]) rfl
 obtain⟨wcs,My,hwo,yN,Dd⟩:=j_.bu.aj0 (id:=Hs.length+4) (aY _ _ 4);have amq:=Qx (l:=[.int .u64 0,.int .u32 0]) My;subst amq;rw[dJ]at Dd;simp only[UJ,T4]at Dd;have QQ:=j_.as4 (t:=6) (id:=Hs.length+4) (off:=0) rfl;have Rx:E5.fr=f3:=gz.le.fr.trans rJ.le.fr;have wm:E5.fr c=some sV:=by rw[Rx];simp[f3]
 have aF:c≠E5.blk (Hs.length+4):=λe=>j_.bu.Ef wm (aY Hs _ 4) rfl e.symm;have Ry:∀b y,E.fr b=some y->E5.fr b=some y/\b≠c/\b≠E5.blk (Hs.length+4):=λb y hb=>by
  have h2:E2.fr b=some y:=by rw[cH.le.fr];exact hb
  have AB:b≠c:=λe=>by subst e;have:=(uI.bu.fr b y h2).1;rw[wC.1]at this;cases this
  have h5:E5.fr b=some y:=by rw[Rx];simp[f3,AB,h2]
  exact⟨h5,AB,λe=>j_.bu.Ef h5 (aY Hs _ 4) rfl e.symm⟩
 generalize Aw:E5.blk (Hs.length+4)=Wg at hwo yN Dd QQ aF Ry;let f6:Nat->Option Obj:=λb'=>if b'=Wg then some (wgBlock SA 0 0)else E5.fr b';have Sx:Conc (E5.frame f6) V5 (Hs++[.cells x.l 76,.cells [iv deep] 3,.cells jr 88,.cells [.val (.chan (some c))] 139,.gone]):=by
  have:(λb'=>if b'=Wg then some (Obj.cells #[.int .u64 0,.int .u32 0] 147 (0,0))else E5.fr b')=f6:=by
   funext b';simp only[f6,wgBlock,wgT]
  rw[<- this];exact Dd
 have C6:At (E5.frame f6) V5 ⟨[(6,.val (pW Wg 0)),(5,.op (Hs.length+3) 0),(4,.op (Hs.length+2) 0),(3,.op (Hs.length+1) 0),(2,.op Hs.length 0)],Hs++[.cells x.l 76,.cells [iv deep] 3,.cells jr 88,.cells [.val (.chan (some c))] 139,.gone]⟩ a5 35:=by
  refine⟨Sx,λt av e=> ?_,j_.size⟩;by_cases ht:t=6
  ·subst ht;cases e;refine⟨by rw[j_.size];omega,?_⟩;have:a5.tmps.getD 6 undef=pW Wg 0:=QQ;rw[this];exact .val _
  ·refine(j_.tok.frame f6) t av ?_;simp only[look]at e⊢;rw[if_neg (Ne.symm ht)]at e⊢;exact e
 clear Dd Sx;have lo6:E.Lo (E5.frame f6):=((((E.anE false).trans cH.le.lo).trans (Env.Hu E2 f3)).trans (rJ.le.lo.trans gz.le.lo)).trans (Env.Hu E5 f6);have Np:(E5.frame f6).main=false:=gz.le.main.trans (rJ.le.main.trans cH.le.main);have ahr:a5.defers=[]:=gz.defers.trans (rJ.defers.trans ((put_defers a2 _ _).trans (cH.defers.trans Sk)));have ro6:V5.role=.plain:=gz.role.trans (rJ.role.trans (cH.role.trans jl));have de6:V5.deaf=0:=gz.deaf.trans (rJ.deaf.trans (cH.deaf.trans uL));have Kw:(E5.frame f6).fr c=some sV:=by show f6 c=_;simp only[f6,if_neg aF];exact wm
 have Kx:(E5.frame f6).fr Wg=some (wgBlock SA 0 0):=by show f6 Wg=_;simp[f6]
 have Rz:∀b y,E.fr b=some y->(E5.frame f6).fr b=some y/\b≠c/\b≠Wg:=λb y hb=>by
  obtain⟨q1,q2,q3⟩:=Ry b y hb;refine⟨?_,q2,q3⟩;show f6 b=_;simp only[f6,if_neg q3];exact q1
 generalize E5.frame f6=E6 at C6 lo6 Np Kw Kx Rz;obtain⟨V7,g7,o7,r7,d7,w9,FG,Qq⟩:=C6.bu.HX (id:=Hs.length) (aY _ _ 0) 6 (by simp[bP]);rw[show Hs.length=Hs.length+0 from rfl,dJ]at FG;simp only[T4]at FG;have adY:=C6.tok.mono w9;generalize hE7:({E6 with I:=V7.ab}:Env)=E7 at w9 FG Qq adY;obtain⟨V8,g8,o8,r8,d8,vn,FH,Qr⟩:=FG.HX (id:=Hs.length+1) (aY _ _ 1) 1 (by simp);rw[dJ]at FH;simp only[UJ,T4]at FH;have adZ:=adY.mono vn;generalize hE8:({E7 with I:=V8.ab}:Env)=E8 at vn FH Qr adZ;obtain⟨V9,g9,o9,r9,d9,vo,xT,Jz⟩:=FH.HX (id:=Hs.length+3) (aY _ _ 3) 1 (by simp);rw[dJ]at xT;simp only[UJ,T4]at xT;have ad0:=adZ.mono vo;generalize hE9:({E8 with I:=V9.ab}:Env)=E9 at vo xT Jz ad0;refine WP.ghost g7 (WP.ghost g8 (WP.ghost g9 ?_));have Nj:E.Lo E9:=lo6.trans ((w9.trans vn).trans vo).lo;have Oa:V9.role=.plain:=r9.trans (r8.trans (r7.trans ro6));have Jw:V9.deaf=0:=d9.trans (d8.trans (d7.trans de6));have x_:E9.fr=E6.fr:=vo.fr.trans (vn.fr.trans w9.fr);have n6:E6.n=Hs.length+5:=by rw[C6.bu.n];simp
 have b7:∀k,k<Hs.length+5->E9.blk k=E6.blk k/\E9.blk k=E7.blk k/\E9.blk k=E8.blk k:=λk hk=>by
  have n7:=w9.n;have n8:=vn.n;have q7:=w9.blk k (by omega);have q8:=vn.blk k (by omega);have q9:=vo.blk k (by omega);exact⟨by rw[q9,q8,q7],by rw[q9,q8],q9⟩
 obtain⟨c1,c2,c3⟩:=xT.fr c sV (by rw[x_];exact Kw);obtain⟨v1,v2,v3⟩:=xT.fr Wg _ (by rw[x_];exact Kx);refine atf (c:=c) (Wg:=Wg) rfl Oa aF c1 (by rw[v1];simp) v2 ?_;let I3:View:={V9 with role:=.fork c Wg []};have ahi:Conc (E9.frame E9.fr) I3 (Hs++(dx x deep c++[])):=by
  refine xT.zi (V':=I3) _ rfl (λ_ _ _ _ _ _ h=>h) (λg hg=> ?_) (λg hg=> ?_) (λhm=>by rw[vo.main,vn.main,w9.main,Np]at hm;cases hm) xT.fr
  ·cases hg;exact⟨by show V9.own Wg≠none;rw[v1];simp,v2,v3⟩
  ·cases hg;exact⟨by show V9.own c≠none;rw[c1];simp,c2,c3⟩
 have dr9:ap E9 (.rp x.l) (.pointer (some ⟨E9.blk Hs.length,0,none⟩)):=by
  have h7:=(Qq.mono vn).mono vo;rw[<- (b7 Hs.length (by omega)).1]at h7;rwa [SS (by simp[bP])]at h7
 have dd9:ap E9 (.rp [iv deep]) (.pointer (some ⟨E9.blk (Hs.length+1),0,none⟩)):=by
  have h8:=Qr.mono vo;rw[<- (b7 (Hs.length+1) (by omega)).2.1]at h8;exact h8
 have JH:ap E9 (.rp [.val (.chan (some c))]) (.pointer (some ⟨E9.blk (Hs.length+3),0,none⟩)):=by
  rw[<- (b7 (Hs.length+3) (by omega)).2.2]at Jz;exact Jz
 have LZ:jv x deep Hs E c Wg (.pointer (some ⟨E9.blk Hs.length,0,none⟩)) (.pointer (some ⟨E9.blk (Hs.length+1),0,none⟩)) (.pointer (some ⟨E9.blk (Hs.length+3),0,none⟩)) [(6,.val (pW Wg 0)),(5,.op (Hs.length+3) 0),(4,.op (Hs.length+2) 0),(3,.op (Hs.length+1) 0),(2,.op Hs.length 0)] [] E9 I3 a5:=
  ⟨⟨ahi,ad0,C6.size⟩,Nj,vo.main.trans (vn.main.trans (w9.main.trans Np)),ahr,Jw,rfl,rfl,rfl,dr9,dd9,JH,λb y hb=>by rw[x_];exact Rz b y hb,aF⟩
 refine amX hx hA hp (by omega) L4 ⟨LZ,rfl,by rw[x_];exact Kw,by rw[x_];exact Kx⟩ λjs D E11 V11 a11 G Mb jD dZ Sm anD ahq ahn aqq ajY=> ?_;subst bJ;have fq:=Kn.len dZ (H.length+5);let L5:List aa:=[.part 6 x.l 76,.part 1 [iv deep] 3,.cells (D.l (H.length+5)) 88,.part 1 [.val (.chan (some c))] 139,.gone];rw[hlen]at Sm;refine⟨ahq,aqo (P:=SA) (rs:=[.cell 4 88]) (H:=H) (L:=L5++[setH D.aK]) (G:=G) (T:=[(4,.op (H.length+2) 0)]) (av:=.agg (D.l (H.length+5))) rfl Sm anD hc (aqq.trans jl.symm) (ahn.trans uL.symm) ajY ?_ rfl ?_ ?_ (hk js D L5 Mb jD dZ rfl)⟩
 ·have hg:(H.map strip++(L5++[setH D.aK]++G))[H.length+2]?=some (.cells (D.l (H.length+5)) 88):=by
   have:=aY (H.map strip) (L5++[setH D.aK]++G) 2;rw[hlen]at this;exact this
  have aG:TS 28 (D.l (H.length+5))=D.l (H.length+5):=SS (by omega);generalize hLG:H.map strip++(L5++[setH D.aK]++G)=LG at hg;try simp only[seval,ie,vC,hg,fq,aG,aa.cellsOf]
 ·have hl:H.length=(H.map strip).length:=hlen.symm;intro y hy;have aln:(H.map strip++(L5++[setH D.aK])).length=H.length+6:=by simp[L5]
  rw[aln];rcases SQ.1 hy with h|h
  ·exact(L4 y h).mono (by omega)
  ·simp only[L5,SK,SQ,SZ,or_false]at h;rcases h with(rfl|rfl|rfl|rfl|rfl)|rfl
   ·exactλa ha=>Hy x _ a ha
   ·intro a ha;simp at ha;subst ha;exact .val _
   ·exact yQ (by omega)
   ·intro a ha;simp at ha;subst ha;exact .val _
   ·trivial
   ·trivial
 ·refine .agg λa ha=> ?_;exact yQ (by simp[L5]) a ha
namespace Tk
theorem aao{x:aj}{bh:Nat}(h0:0<=x.first)(h90:x.first<=90)(hp:0<=x.am/\x.am<=3):∀(d:Nat)(pre:List Int),pre.length+d<=4->pre.head?=some x.first->(∀a∈pre,x.first<=a/\a<=x.first+3* (pre.length-1:Nat))->∀h∈mL x bh d pre,h.length=4/\h.head?=some x.first/\∀a∈h,x.first<=a/\a<=x.first+9
 |0,pre,hl,hh,ha,h,hm=>by
  unfold mL at hm;split at hm
  ·rw[S8]at hm;subst hm;have aF:pre≠[]:=λe=>(by rw[e]at hh;cases hh);have cP:0<pre.length:=Vy.2 aF;have uT:pre.getLastD 0∈pre:=by
    rw[UR,XR aF];exact Zs aF
   refine⟨by simp[cL];omega,by rw[cL,WU,hh];rfl,λa hm=> ?_⟩;have LR:a∈pre:=by
    rcases SQ.1 hm with h|h
    ·exact h
    ·rw[(XB.1 h).2];exact uT
   have:=ha a LR;omega
  ·cases hm
 |d+1,pre,hl,hh,ha,h,hm=>by
  unfold mL at hm;split at hm
  ·obtain⟨n,hn,hm⟩:=S6.1 hm;have iW:n<x.am.toNat+1:=(by simpa using hn);split at hm
   ·cases hm
   ·have aF:pre≠[]:=λe=>(by rw[e]at hh;cases hh);have cP:0<pre.length:=Vy.2 aF;have uT:pre.getLastD 0∈pre:=by
     rw[UR,XR aF];exact Zs aF
    refine aao h0 h90 hp d _ (by simp;omega) (by rw[WU,hh];rfl) (λa LR=> ?_) h hm;rw[S5,T_];rcases SQ.1 LR with h'|h'
    ·have:=ha a h';omega
    ·rw[S8]at h';subst h';have:=ha _ uT;omega
  ·cases hm
theorem aaj{x:aj}{bh:Nat}(hx:x.Ok){h:List Int}(hm:h∈kq x bh):mA h:=by
 have hf:=hx.first;have hh:=hx.hours;have hp:=hx.am;obtain⟨h1,h2,h3⟩:=aao (bh:=bh) hf.1 hf.2 ⟨by omega,hp.2⟩ x.hours.toNat [x.first] (by simp;omega) rfl (λa ha=>by rw[S8]at ha;subst ha;simp) h hm;refine⟨h1,λa ha=>by have:=h3 a ha;omega,λa ha=>by have:=h3 a ha;omega,?_⟩
 match h,h1,h2,h3 with
 |[a,b,c,d],_,h2,h3=>
  have ha:a=x.first:=by simpa using h2
  have:=h3 d (by simp);simp;omega
theorem acd:∀{qs:List Nat}{u:Nat}{t ns:List Nat},ns∈kK qs u t->∃l,ns=t++l/\l.length=qs.length/\∀(i n q:Nat),l[i]?=some n->qs[i]?=some q->n<9/\q.testBit n=true
 |[],u,t,ns,h=>by
  simp only[kK,S8]at h;exact⟨[],by simp[h],rfl,λi n q h1=>by cases h1⟩
 |q::qs,u,t,ns,h=>by
  simp only[kK,S6]at h;obtain⟨n,hn,h⟩:=h;split at h
  ·cases h
  ·rename_i hc;obtain⟨l,h1,h2,h3⟩:=acd h;refine⟨n::l,by rw[h1];simp,by simp[h2],λi m q' h4 h5=> ?_⟩
   match i with
   |0=>
    cases h4;cases h5;refine⟨by simpa using hn,?_⟩;simp at hc;exact hc.2
   |i+1=>exact h3 i m q' h4 h5
theorem acp{k:Nat}{ns:List Nat}:∀{qs:List Nat}{u:Nat}{t os:List Nat},os∈mr k ns qs u t->∃l,os=t++l/\l.length=qs.length/\∀n∈l,n<k
 |[],u,t,os,h=>by
  simp only[mr,S8]at h;exact⟨[],by simp[h],rfl,λn h1=>by cases h1⟩
 |q::qs,u,t,os,h=>by
  simp only[mr,S6]at h;obtain⟨n,hn,h⟩:=h;split at h
  ·cases h
  ·obtain⟨l,h1,h2,h3⟩:=acp h;refine⟨n::l,by rw[h1];simp,by simp[h2],λm hm=> ?_⟩;rcases SK.1 hm with rfl|hm
   ·simpa using hn
   ·exact h3 m hm
theorem OC:∀{h:List Int}{i:Nat}{n a:Int},h.head?=some a->a<=n->n<h.getLastD 0->0<=eP i h n
 |[],i,n,a,h1,_,_=>by cases h1
 |[b],i,n,a,h1,h2,h3=>by
  simp at h1 h3;omega
 |b::c::l,i,n,a,h1,h2,h3=>by
  have:b=a:=by simpa using h1
  subst this;unfold eP;split
  ·omega
  ·rename_i hc;exact OC (a:=c) rfl (by omega) (by simpa[UR]using h3)
theorem asG{x:aj}{h:List Int}{ns os:List Nat}(hx:x.Ok)(hh:mA h)(hn:ns∈fZ x h)(ho:os∈iB x h ns):jw x (dE h ns os):=by
 obtain⟨l,e1,e2,e3⟩:=acd hn;simp only[UL]at e1;subst e1;obtain⟨m,g1,g2,g3⟩:=acp ho;simp only[UL]at g1;subst g1;rw[S9]at e2 g2;have h4:=hh.len;have GK:=hx.ec;have pE:=hx.de;have DJ:(dE h ns os).take 4=h:=by
  unfold dE;rw[SC,Tw (by omega),SS (by omega)]
 have du:(lq 4 ns).length=4:=Bp (by omega);have hg:∀p,p<ns.length->(dE h ns os)[4+p]?=(ns[p]?).map λn:Nat=>(n:Int):=λp hp=>by
  unfold dE;rw[SC,Ta (by omega),SX (by omega),h4,TU];unfold lq;rw[SX (by simpa using hp),To]
 refine⟨by simp[dE,h4,du,Bp (k:=3) (l:=os) (by omega)],by rw[DJ];exact hh,λp hp=> ?_,λs hs=> ?_⟩
 ·obtain⟨n,wP⟩:=bZ (xs:=ns) (i:=p) (by omega);obtain⟨y,hy⟩:=bZ hp;obtain⟨q1,q2⟩:=e3 p n (b_ h y) wP (by rw[To,hy];rfl);refine⟨n,by rw[hg p (by omega),wP];rfl,q1,?_⟩;rw[DJ];unfold b_ at q2;rw[Cv]at q2;simp only[Tl,lC,decide_eq_true_eq]at q2;obtain⟨a,b,c,d,rfl,_⟩:=hh.out;have e0:(dE [a,b,c,d] ns os).getD 0 0=a:=rfl;rw[e0];have:=q2.2.1.1;simp at this;exact OC (a:=a) rfl (by omega) (by simp;omega)
 ·obtain⟨o,L8⟩:=bZ (xs:=os) (i:=s) (by omega);refine⟨o,?_,by have:=g3 o (S_ L8);omega⟩;unfold dE;rw[Ta (by simp[h4,du]),show (h++lq 4 ns).length=8 by simp[h4,du],TU];unfold lq;rw[SX (by have:=eN L8;simpa using this),To,L8];rfl
end Tk
theorem EI{x:aj}(hx:x.Ok):xI x:=λbh _ h hm=>by
 have hh:=aaj hx hm;refine⟨hh,λns gK a ha=> ?_⟩;obtain⟨os,h1,rfl⟩:=Te.1 ha;exact asG hx hh gK h1
open Go.Conc
section
variable {lv:Bool}{P:SI}{s:AS}{ms:List Nat}{bs:List U2}{nt:Nat}
theorem ajK{f:TQ}{fn:YH}{c0 c1 c2:T7}{rs:List UQ}{H:List aa}{args:List AV}{k kp:AV->List aa->Prop}(hf:P.funcs[f]?=some fn)(hb:fn.body=some (.seq c0 (.seq c1 c2)))(hr:fn.results=rs.toArray)(hn:fn.ntmps=nt)(cM:args.length<=nt)
  (h:bH H->(∀a∈args,Lt H.length a)->aP lv P none nt c0 ⟨bt 0 args,H⟩ λe s0=>e=.normal/\BU lv P nt c1 s0 [] (λe s' ni=>e=.normal/\∃c,ni=[c]/\∀bs,kz lv P nt bs c2 s' [] (zJ lv P rs H.length c k kp))):bf lv P f H args k kp:=by
 intro E V vs hc hd;have hlt:∀a∈args,Lt H.length a:=λa ha=>by
  obtain⟨i,hi⟩:=pM ha;rw[<- hc.n];exact(hd.2 i a hi).lt
 have ah:=Ct (nt:=nt) hc hd cM;refine agY (by simp) hf hb ?_;rw[hn];refine wp_seq (h hc.aq hlt E V _ _ ah λae e E0 V0 a0 s0 uR tn he0 hΦ0=> ?_);obtain⟨rfl,yM⟩:=hΦ0;cases e<;>first
  |exact he0.elim
  |skip
 have akX:a0.defers=[]:=uR.defers;refine wp_seq (yM E0 V0 a0 _ tn (by rw[akX];trivial) λae e E1 V1 a1 s1 ds1 alj wx cQ Dg hΦ1=> ?_);obtain⟨rfl,c,rfl,hw⟩:=hΦ1;have iG:=uR.d.trans alj;cases e<;>first
  |exact Dg.elim
  |skip
 obtain⟨d,jh,bk⟩:∃d,a1.defers=[d]/\zD E1 c d:=by
  match jh:a1.defers,cQ with
  |[d],cQ=>exact⟨d,rfl,cQ.1⟩
  |[],cQ=>exact cQ.elim
  |_::_::_,cQ=>exact cQ.2.elim
 refine hw [d] E1 V1 a1 _ wx ⟨by simp[jh],by simp⟩ λae e E' V' a' s' cD hk aT fW he hΦ=> ?_;have hle:E.Le E':=iG.le.trans hk.le;have fin:∀(md:Vf)(m:Option AV)(H':List aa),(md matches .run)=false->iP cD s'.H=some H'->Pb E' m md->qS lv P c H' m (λH'=>ao (ie P ⟨s'.T,H'⟩ rs) λl=>cF H.length H' (i_ l) k) (λH'=>∀pv,m=some pv->cF H.length H' pv kp)->uo lv P fn (gW E V k kp) a'.defers md a'.tmps V':=by
  intro md m H' qw hg aay hD;refine aeg qw cD _ H' E' V' _ hg aT.bu fW λV2 r1 r2 cO=> ?_;have akU:=bk.mono hk.le;refine⟨qw,.inr ⟨?_,?_⟩⟩
  ·obtain⟨f,first,cV,fa,ca,vs,h1,rfl,h3,h4,h5⟩:=bk;exact⟨_,_,rfl⟩
  ·refine(hD E' V2 d md cO akU aay).mono (λnx aS hx=> ?_) λ_ _ h=>h;obtain⟨g,args,rfl,CY⟩:=hx;refine⟨g,args,rfl,CY.mono λnQ V3 hx=> ?_⟩;obtain⟨E3,H3,q1,q2,q3,q4,q5|q5⟩:=hx
   ·obtain⟨rfl,q5⟩:=q5;exact acQ (s':=⟨s'.T,H3⟩) (a':=a') hr ⟨q4,aT.tok.mono q1,aT.size⟩ (hle.trans q1) hc.n (q2.trans (r1.trans (hk.role.trans iG.role))) (q3.trans (r2.trans (hk.deaf.trans iG.deaf))) q5
   ·obtain⟨rfl,uV,q5⟩:=q5;cases m with
    |none=>cases uV
    |some pv=>
     obtain⟨v,rfl,me⟩:=aay;obtain⟨b,bS,ui,t1,t2,t3,t4⟩:=xX (q5 pv rfl) q4 (me.mono q1) (hle.trans q1) hc.n;exact⟨b,v,bS,ui,rfl,t1,q2.trans (r1.trans (hk.role.trans iG.role)),q3.trans (r2.trans (hk.deaf.trans iG.deaf)),t2,t3,t4⟩
 have ajB:zJ lv P rs H.length c k kp .ret s' cD->uo lv P fn (gW E V k kp) a'.defers .returning a'.tmps V':=λhΦ=>by
  obtain⟨H',hg,hΦ⟩:=ao.out hΦ;refine fin .returning none H' rfl hg rfl λE2 V2 d2 Nr c1 c2 c3=> ?_;refine(hΦ E2 V2 d2 Nr c1 c2 c3).mono (λnx aS hx=> ?_) λ_ _ h=>h;obtain⟨g,args,rfl,CY⟩:=hx;refine⟨g,args,rfl,CY.mono λnQ V3 hx=> ?_⟩;obtain⟨E3,H3,q1,q2,q3,q4,q5|q5⟩:=hx
  ·exact⟨E3,H3,q1,q2,q3,q4,.inl q5⟩
  ·exact q5.2.2.elim
 cases ae<;>cases e<;>first
  |exact he.elim
  |exact ajB hΦ
  |exact hΦ.elim
  |skip
 rename_i pv ch;obtain⟨v,eS,akV⟩:∃v,ch=[{v,recovered:=false}]/\ap E' pv v:=he;subst eS;obtain⟨H',hg,hΦ⟩:=ao.out hΦ;refine fin _ (some pv) H' rfl hg ⟨v,rfl,akV⟩ λE2 V2 d2 Nr c1 c2 c3=> ?_;refine(hΦ E2 V2 d2 Nr c1 c2 c3).mono (λnx aS hx=> ?_) λ_ _ h=>h;obtain⟨g,args,rfl,CY⟩:=hx;refine⟨g,args,rfl,CY.mono λnQ V3 hx=> ?_⟩;obtain⟨E3,H3,q1,q2,q3,q4,q5|q5⟩:=hx
 ·exact⟨E3,H3,q1,q2,q3,q4,.inl q5⟩
 ·exact⟨E3,H3,q1,q2,q3,q4,.inr ⟨q5.1,q5.2.1,λpv' e=>by cases e;exact q5.2.2⟩⟩
end
open Go.Proofs Go.Gg.Tk
namespace Tk
def rk (x:aj):Bool:=(SU (x.am.toNat+1)).any λbh=>(kq x bh).any λh=> !(iM x 0 h).isEmpty
end Tk
def vu:AV:=.da 136 (.agg [])
section
variable {lv:Bool}{H:List aa}{kr kp:List aa->Prop}
theorem ajl{r:Nat}(h:∀L,kr (H++L)):qS lv SA (.fn (.func 95) [] [.op r 0],[]) H none kr kp:=by
 refine Qo (nt:=9) (by kernel_rfl) F.f95 rfl rfl rfl rfl rfl rfl rfl rfl (by kernel_rfl) (by simp) ?_;simp only[bt,SY,UL,Vr];(try simp only[seval,F.MU]);refine d_ (a:=[]) rfl ⟨rfl,by decide,by simp,?_⟩;refine ak ?_;refine aD ?_;refine agk ?_;exact .inl (h _)
theorem ajm{r:Nat}{a:AV}(hr:H[r]?=some (.cells [a] 4))(h:∀L,kr (H.set r (.cells [bv true] 4)++L)):qS lv SA (.fn (.func 95) [] [.op r 0],[]) H (some vu) kr kp:=by
 refine Qo (nt:=9) (by kernel_rfl) F.f95 rfl rfl rfl rfl rfl rfl rfl rfl (by kernel_rfl) (by simp) ?_;simp only[bt,SY,UL,S0,vu];(try simp only[seval,F.MU]);have uZ:=eN hr;have yF:∀L:List aa,(H++L)[r]?=some (.cells [a] 4):=λL=>fO hr;refine ak ?_;refine aD ?_;refine ai ?_;simp only[seval,yF,vH uZ];exact .inl (h _)
end
def rj (x:aj)(m:Lp)(h:List Int):dG Lp:=if(iM x 0 h).isEmpty then .go .ready else .bad .busy
theorem P8{x:aj}:∀(l:List (List Int)),bE (rj x) l .ready=if l.any (λh=> !(iM x 0 h).isEmpty)=true then .bad .busy else .go .ready
 |[]=>by simp[bE]
 |h::l=>by
  have ih:=P8 (x:=x) l;by_cases he:(iM x 0 h).isEmpty=true
  ·have e1:rj x .ready h=.go .ready:=(by unfold rj;rw[if_pos he]);rw[bE,e1];dsimp only;rw[ih];simp only[YV,he,as_,Zy]
  ·have e1:rj x .ready h=.bad .busy:=(by unfold rj;rw[if_neg he]);rw[bE,e1];dsimp only;have e2:(iM x 0 h).isEmpty=false:=(by simpa using he);simp only[YV,e2,YI,ah',if_true]
theorem agy(l:List (List Int)):bE (λ(_:Lp) (_:List Int)=>(.bad .busy:dG Lp)) l .ready=if l.isEmpty then .go .ready else .bad .busy:=by
 cases l<;>rfl
def CA (x:aj)(i:Nat):List aa:=[.cells x.l 76,.cells [iv i] 3,.obj (.deferred (some [])),.gone]
def kC (x:aj)(H:List aa):Nat->List aa
 |0=>H++[.cells x.l 76,.cells [bv false] 4]
 |i+1=>kC x H i++CA x i
def xR (H:List aa):Nat->List Nat
 |0=>[]
 |i+1=>(H.length+2+4* i+2)::xR H i
theorem Jq(x:aj)(H:List aa):∀i,(kC x H i).length=H.length+2+4* i
 |0=>by simp[kC]
 |i+1=>by simp[kC,CA,Jq x H i];omega
theorem P7(x:aj)(H:List aa):∀i,∃Y,kC x H i=H++[.cells x.l 76,.cells [bv false] 4]++Y
 |0=>⟨[],by simp[kC]⟩
 |i+1=>by
  obtain⟨Y,h⟩:=P7 x H i;exact⟨Y++CA x i,by rw[kC,h,SC]⟩
theorem Jp(x:aj)(H:List aa):∀(i:Nat)(L:List aa),∃Y,iP (xR H i) (kC x H i++L)=some (H++[.cells x.l 76,.cells [bv false] 4]++Y)
 |0,L=>⟨L,by rw[xR,Aq,kC]⟩
 |i+1,L=>by
  have hl:=Jq x H i;have e:(kC x H (i+1)++L)=kC x H i++(CA x i++L):=by rw[kC,SC]
  have hg:(kC x H i++(CA x i++L))[H.length+2+4* i+2]?=some (.obj (.deferred (some []))):=by rw[<- hl,aY];rfl
  obtain⟨Y,hY⟩:=Jp x H i ([.cells x.l 76,.cells [iv i] 3,.gone,.gone]++L);refine⟨Y,?_⟩;rw[xR,e,Ap hg,<- hl,dJ];exact hY
theorem P6(x:aj)(H:List aa)(i:Nat)(L:List aa):(kC x H i++L)[H.length]?=some (.cells x.l 76)/\(kC x H i++L)[H.length+1]?=some (.cells [bv false] 4):=by
 obtain⟨Y,h⟩:=P7 x H i;rw[h,SC,SC];exact⟨aY H _ 0,aY H _ 1⟩
section
variable {lv:Bool}
theorem ajQ{P:SI}(rs:List UQ)(n:Nat)(c:AV×List AV)(k kp:AV->List aa->Prop)(pv:AV)(s:AS)(ms:List Nat):zJ lv P rs n c k kp (.panic pv) s ms=ao (iP ms s.H) λH'=>qS lv P c H' (some pv) (λH'=>ao (ie P ⟨s.T,H'⟩ rs) λl=>cF n H' (i_ l) k) (λH'=>cF n H' pv kp):=by rw[zJ]
theorem ajR{P:SI}(rs:List UQ)(n:Nat)(c:AV×List AV)(k kp:AV->List aa->Prop)(s:AS)(ms:List Nat):zJ lv P rs n c k kp .ret s ms=ao (iP ms s.H) λH'=>qS lv P c H' none (λH'=>ao (ie P ⟨s.T,H'⟩ rs) λl=>cF n H' (i_ l) k) (λ_=>False):=by rw[zJ]
theorem ai9{H:List aa}{k kp:AV->List aa->Prop}{x:aj}(hx:x.Ok)(hk:k (bv (rk x)) H):bf lv SA 71 H [x.av] k kp:=by
 refine ajK (rs:=[.cell 2 4]) (nt:=24) F.f71 rfl rfl rfl (by simp) λhH hA=> ?_;simp only[bt,SY,aj.av];have KG:=EI hx;have hp:=hx.am;obtain⟨p,iy⟩:∃p:Nat,x.am=p:=⟨x.am.toNat,by omega⟩;have bP:x.l=[iv x.first,iv x.hours,iv x.am,cY x.seen,aL x.pieces,aL x.aA]:=rfl;have aX:∀(L:List aa),(H++L)[H.length]?=L[0]?:=λL=>aY H L 0;have hw:SD.wrap (x.am+1)=((p+1:Nat):Int):=by rw[iy,bw _ (by omega)];rfl
 refine ai ?_;simp only[seval,F.Ph];refine PO (n:=1) rfl rfl rfl rfl rfl rfl (by kernel_rfl) ?_;(try simp only[seval,Ub,UE,Uj,TR]);refine⟨⟨_,_,_,rfl⟩,_,rfl,λbs=> ?_⟩;refine FA ?_;refine sR ?_;refine ai ?_;simp only[seval,aX,bP,hw];refine xO ?_;refine PP (measure λi=>p+1-i).wf (λi:Nat=>⟨[(10,iv i),(9,iv ((p+1:Nat):Int)),(2,.op (H.length+1) 0),(1,.op H.length 0)],kC x H i⟩) (λi=>xR H i) (λi=>i<=p+1/\∀j,j<i->∀h∈kq x j,(iM x 0 h).isEmpty=true) 0 (dz (by simp only[seval];simp[bm,Wk.refl]) rfl) rfl ⟨by omega,λj hj=>by omega⟩ λi aq=> ?_;obtain⟨oE,fu⟩:=aq;have cN:=Jq x H i;have oA:=λL=>(P6 x H i L).1;have uJ:=λL=>(P6 x H i L).2;obtain⟨N,hN⟩:∃N,N=H.length+2+4* i:=⟨_,rfl⟩;rw[<- hN]at cN;have Sr:(kC x H i)[H.length]?=some (.cells x.l 76):=by have:=oA [];rwa [SN]at this
 refine sR ?_;refine ak ?_;refine sR ?_;refine aD ?_;refine⟨λh=> ?_,λh=> ?_⟩
 ·
  have qp:i<=3:=by omega
  refine aO ?_;refine FA ?_;refine xO ?_;refine sR ?_;refine ak ?_;refine sR ?_;refine ai ?_;simp only[seval,Sr,bP];refine aJ ((J' (x:=x) (n:=i) ?_));rw[cN];(try simp only[seval]);refine xO ?_;refine Ji (by rfl) λl fn T ag bo hT yj qj=> ?_;have mb:(kC x H i++[aa.cells x.l 76,aa.cells [iv i] 3]).length=N+2:=by rw[S5,cN];rfl
  (try simp only[seval]);rw[cN];obtain⟨B,hB⟩:∃B,B=kC x H i:=⟨_,rfl⟩;rw[<- hB]at cN Sr oA uJ⊢;have bg:∀(L:List aa)(j:Nat),(B++L)[N+j]?=L[j]?:=λL j=>by rw[<- cN,aY]
  have FD:∀(L:List aa)(j:Nat)(y:aa),(B++L).set (N+j) y=B++L.set j y:=λL j y=>by rw[<- cN,dJ]
  have Sz:∀(M:List aa)(lp:Lp),bH (B++([aa.cells x.l 76,.cells [iv i] 3,.obj (.deferred (some [])),.loop l .ready none fn T 24 #[16] ag bo (N+2)]++M))->bH (B++([aa.cells x.l 76,.cells [iv i] 3,.obj (.deferred (some [])),.loop l lp.st lp.pe fn T 24 #[16] ag bo (N+2)]++M)):=λM lp iq z hz=>by
   have hlen:(B++([aa.cells x.l 76,.cells [iv i] 3,.obj (.deferred (some [])),.loop l lp.st lp.pe fn T 24 #[16] ag bo (N+2)]++M)).length=(B++([aa.cells x.l 76,.cells [iv i] 3,.obj (.deferred (some [])),.loop l .ready none fn T 24 #[16] ag bo (N+2)]++M)).length:=(by simp);have hl:=iq (.loop l .ready none fn T 24 #[16] ag bo (N+2)) (by simp);rw[hlen];rcases SQ.1 hz with h'|h'
   ·exact iq z (Th _ h')
   ·rcases SQ.1 h' with h'|h'
    ·simp only[SK,SZ,or_false]at h';rcases h' with rfl|rfl|rfl|rfl
     ·exact iq _ (by simp)
     ·exact iq _ (by simp)
     ·exact iq _ (by simp)
     ·exact hl
    ·exact iq z (S4 _ (S4 _ h'))
  have hY:jP lv SA (.fn (.yield l) [] []) (rj x) (λlp:Lp=>B++[.cells x.l 76,.cells [iv i] 3,.obj (.deferred (some [])),.loop l lp.st lp.pe fn T 24 #[16] ag bo (N+2)]) (N+4) (λlp=>lp=.ready) (λh=>mA h/\∀ns∈fZ x h,∀a∈(iB x h ns).map (dE h ns),jw x a) vu:=by
   refine⟨λlp h M k kp g_ ha dO=> ?_,λlp h D9 g_ ha he=> ?_,λlp=>by simp[cN],λm lp D9 hz z eW=> ?_,rfl,rfl,rfl⟩
   ·replace g_:lp=.ready:=g_;subst g_;obtain⟨pu,DK⟩:=ha;have h4:=pu.len;have nm:(h.map iv).length=4:=(by rw[S9,h4]);obtain⟨Lo,kX⟩:∃Lo,Lo=aa.loop l .busy none fn T 24 #[16] ag bo (N+2):=⟨_,rfl⟩;obtain⟨P1,dB⟩:∃P1:List aa,P1=B++([.cells x.l 76,.cells [iv i] 3,.obj (.deferred (some [])),Lo]++M):=⟨_,rfl⟩;have eo:P1.length=N+4+M.length:=(by rw[dB];simp[cN];omega);have pg3:∀(L:List aa),(P1++L)[N+3]?=some Lo:=λL=>(by rw[dB,SC,bg];rfl);have px:∀(L:List aa),(P1++L)[H.length]?=some (.cells x.l 76):=λL=>(by rw[dB,SC];exact oA _);have pb:∀(L:List aa)(j:Nat),(P1++L)[N+4+M.length+j]?=L[j]?:=λL j=>(by rw[<- eo,aY]);have xf:∀(L:List aa),(P1++L)[N+4+M.length]?=L[0]?:=λL=>pb L 0;have pQ:∀(L:List aa)(y:aa),(P1++L).set (N+4+M.length+4) y=P1++L.set 4 y:=λL y=>(by rw[<- eo,dJ]);have s3:∀(L:List aa) y,(P1++L).set (N+3) y=B++([.cells x.l 76,.cells [iv i] 3,.obj (.deferred (some [])),y]++M)++L:=λL y=>by
     rw[dB,SC,FD];simp
    subst hT yj qj;rw[SC];refine wc (id:=N+3) (by rw[bg];rfl) rfl (by kernel_rfl) λov KH=> ?_;simp only[sC];have wF:TH 4 [iv 0,iv 0,iv 0,iv 0]=[]:=rfl;refine ai ?_;simp only[seval,h4,wF];unfold un;refine⟨none,fn,_,24,#[16],_,_,_,by rw[bg];rfl,?_⟩;dsimp only;rw[FD];simp only[UJ,T4];rw[<- kX];have ye:B.length+(M.length+1+1+1+1)=N+4+M.length:=(by rw[cN];omega);rw[ye];have yr:∀z:aa,(B++aa.cells x.l 76::aa.cells [AV.val (SF SD ↑i)] 3::aa.obj (au_ (some []))::Lo::(M++[z]))=P1++[z]:=λz=>(by rw[dB];simp[iv]);rw[yr];refine ai ?_;simp only[seval,px,bP,xf,h4,nm];rw[SS (i:=4) (l:=h.map iv) (by rw[nm];exact SO _)];refine aJ ((Kc (x:=x) (h:=h) (deep:=0) ?_));(try simp only[seval]);refine bY ?_;refine Fx (N+3) (by rfl) (by show (P1++_)[N+3]?=_;rw[pg3,kX]) λl2 eM T2 gE gG ox yk yl=> ?_;simp only[seval];rw[eo];have yi:jP lv SA (.fn (.yield l2) [] []) (λ(_:Lp) (_:List Int)=>(.bad .busy:dG Lp)) (λlp:Lp=>P1++[.cells (h.map iv) 83,.cells x.l 76,.cells (h.map iv) 83,.cells [iv 0] 3,.loop l2 lp.st lp.pe eM T2 24 #[20] gE gG (N+2)]) (N+4+M.length+5) (λlp=>lp=.ready) (λa=>a.length=11) vu:=by
     refine⟨λlp t M2 k2 yR g_ ht ld=> ?_,λlp t D9 g_ ht he=>(by cases he),λlp=>by simp[eo],λq lp D9 hz z eW=> ?_,rfl,rfl,rfl⟩
     ·replace g_:lp=.ready:=g_;subst g_;simp only[cX]at ld;have lV:∀(L:List aa),(P1++L)[N+4+M.length+4]?=L[4]?:=λL=>pb L 4;subst ox yk yl;rw[SC];refine wc (id:=N+4+M.length+4) (by rw[lV];rfl) rfl (by kernel_rfl) λrA KI=> ?_;simp only[sC];refine aO ?_;unfold un;refine⟨none,eM,_,24,#[20],_,_,_,by rw[lV];rfl,?_⟩;dsimp only;rw[pQ];simp only[UJ,T4];refine ai ?_;simp only[seval,F.MU];show cF _ (P1++_) _ yR;rw[SC]at ld;exact b9 ld
     ·rcases SQ.1 eW with h'|h'
      ·exact hz z (Th _ h')
      ·have hl:=hz _ (S4 _ (S_ (i:=4) rfl));simp only[SK,SZ,or_false]at h';rcases h' with rfl|rfl|rfl|rfl|rfl
       ·exact hz _ (S4 _ (by simp))
       ·exact hz _ (S4 _ (by simp))
       ·exact hz _ (S4 _ (by simp))
       ·exact hz _ (S4 _ (by simp))
       ·exact hl
    rw[eo]at ox;have GD:∀n,Lt n vu:=λn=>(by simp[vu,abG,sf]);refine di (Kg (x:=x) (h:=h) (deep:=0) (ir:=N+4+M.length+1) (ih:=N+4+M.length+1+1) (id:=N+4+M.length+1+2) (σ:=Lp.ready) hx pu yi (λlp L=> ?_) (λlp L=> ?_) (λlp L=> ?_) GD rfl (λa ha=>ha) (λns gK a ha=>(DK ns gK a ha).len) ?_)
    ·rw[SC];exact pb _ 1
    ·rw[SC];exact pb _ 2
    ·rw[SC];exact pb _ 3
    rw[agy];have lV:∀(L:List aa),(P1++L)[N+4+M.length+4]?=L[4]?:=λL=>pb L 4;by_cases tx:(iM x 0 h).isEmpty=true
    ·rw[if_pos tx];have e1:rj x .ready h=.go .ready:=(by unfold rj;rw[if_pos tx]);rw[e1]at dO;simp only[cX]at dO;simp only[gg,SN];refine⟨.ready,none,_,_,_,_,_,_,_,by rw[lV];rfl,by decide,?_⟩;rw[pQ,HV];(try simp only[seval]);show oZ _ _ _ _ _ _ _;refine⟨l,.busy,none,fn,_,24,#[16],_,_,N+2,by show (P1++_)[_]?=_;rw[pg3,kX],?_⟩;show cF (N+4+M.length) ((P1++_).set _ _) _ k;rw[s3];rw[SC]at dO;exact jU (G:=[.cells (h.map iv) 83,.cells x.l 76,.cells (h.map iv) 83,.cells [iv 0] 3,.gone]) (Wk.refl _) (by simp[iv];exact⟨rfl,rfl⟩) (by simp[cN];omega) (Sz M .ready ov) (.val _) dO
    ·rw[if_neg tx];have e1:rj x .ready h=.bad .busy:=(by unfold rj;rw[if_neg tx]);rw[e1]at dO;simp only[cX]at dO;simp only[gg,SN];show cF (N+4+M.length) (P1++_) vu kp;rw[SC]at dO;refine jU (H':=B++([aa.cells x.l 76,.cells [iv i] 3,.obj (.deferred (some [])),.loop l Lp.busy.st Lp.busy.pe fn _ 24 #[16] _ _ (N+2)]++M)) (Wk.refl _) (by rw[dB,kX];rfl) (by simp[cN];omega) (Sz M .busy ov) (GD _) dO
   ·replace g_:lp=.ready:=g_;subst g_;unfold rj at he;split at he
    ·cases he;rfl
    ·cases he
   ·rcases SQ.1 eW with h'|h'
    ·exact hz z (Th _ h')
    ·have hl:=hz _ (S4 _ (S_ (i:=3) rfl));simp only[SK,SZ,or_false]at h';rcases h' with rfl|rfl|rfl|rfl
     ·exact hz _ (S4 _ (by simp))
     ·exact hz _ (S4 _ (by simp))
     ·exact hz _ (S4 _ (by simp))
     ·exact hl
  have GD:∀n,Lt n vu:=λn=>by simp[vu,abG,sf]
  refine di (Ke (x:=x) (bh:=i) (ir:=N) (it:=N+1) (σ:=Lp.ready) hx hY (λlp L=> ?_) (λlp L=> ?_) qp GD rfl (λa ha=>KG i qp a ha) ?_)
  ·rw[SC];exact bg _ 0
  ·rw[SC];exact bg _ 1
  rw[P8];have bC:SD.wrap ((i:Int)+1)=((i+1:Nat):Int):=by rw[bw _ (by omega)];rfl
  by_cases Gd:(kq x i).any (λh=> !(iM x 0 h).isEmpty)=true
  ·rw[if_pos Gd];have K6:rk x=true:=by
    unfold rk;rw[Ur];exact⟨i,by rw[Tx];omega,Gd⟩
   rw[K6]at hk;simp only[gg,SN];(try simp only[seval,ajQ]);obtain⟨Y,wu⟩:=Jp x H i [.cells x.l 76,.cells [iv i] 3,.gone,.loop l .busy none fn T 24 #[16] ag bo (N+2)];rw[<- hB]at wu;have hgo:iP ((N+2)::xR H i) (B++[.cells x.l 76,.cells [iv i] 3,.obj (.deferred (some [])),.loop l Lp.busy.st Lp.busy.pe fn T 24 #[16] ag bo (N+2)])=some (H++[.cells x.l 76,.cells [bv false] 4]++Y):=by
    rw[Ap (by rw[bg];rfl),FD];exact wu
   refine d_ hgo ?_;have dq:(H++[aa.cells x.l 76,.cells [bv false] 4]++Y)[H.length+1]?=some (.cells [bv false] 4):=(by rw[SC];exact aY H _ 1);refine ajm dq λL=> ?_;have cO:((H++[aa.cells x.l 76,.cells [bv false] 4]++Y).set (H.length+1) (.cells [bv true] 4)++L)[H.length+1]?=some (.cells [bv true] 4):=by
    rw[SC,dJ,SC];exact aY H _ 1
   (try simp only[seval,ie,vC,cO,aa.cellsOf]);exact lB hH hk
  ·rw[if_neg Gd];simp only[gg,SN];refine⟨.ready,none,_,_,_,_,_,_,_,by show (B++_)[N+3]?=_;rw[bg];rfl,by decide,?_⟩;rw[show N+2+1=N+3 from rfl,FD,HU];(try simp only[seval]);refine Fz ?_;refine ai ?_;simp only[seval,bC];refine⟨i+1,?_,⟨by omega,λj hj g hm=> ?_⟩,dz (by push_cast;simp only[seval];simp[bm,Wk.refl]) (by rw[hB];rfl),by rw[xR,hN]⟩
   ·show p+1-(i+1)<p+1-i;omega
   ·by_cases cp:j<i
    ·exact fu j cp g hm
    ·have:j=i:=(by omega);subst this;apply Tn;intro aF;exact Gd (Ur.2 ⟨g,hm,by simpa using aF⟩)
 ·
  have dD:i=p+1:=by omega
  subst dD;have K6:rk x=false:=by
   unfold rk;rw[Bool.eq_false_iff];intro hc;obtain⟨j,h1,h2⟩:=Ur.1 hc;obtain⟨h,h3,h4⟩:=Ur.1 h2;rw[Tx]at h1;have:=fu j (by omega) h h3;rw[this]at h4;cases h4
  rw[K6]at hk;have Sn:(kC x H (p+1))[H.length+1]?=some (.cells [bv false] 4):=by have:=uJ [];rwa [SN]at this
  refine bU ?_;refine sR ?_;refine ai ?_;simp only[seval,Sn];rw[qL Sn];refine Fz ?_;refine oe ?_;rw[ajR];obtain⟨Y,wu⟩:=Jp x H (p+1) [];rw[SN]at wu;refine d_ wu ?_;refine ajl λL=> ?_;have cO:(H++[aa.cells x.l 76,.cells [bv false] 4]++Y++L)[H.length+1]?=some (.cells [bv false] 4):=by
   rw[SC,SC];exact aY H _ 1
  (try simp only[seval,ie,vC,cO,aa.cellsOf]);exact lB hH hk
end
open Go.Conc Go.Proofs Go.Gg.Tk
section
variable {lv:Bool}{H:List aa}{k kp:AV->List aa->Prop}
theorem sZ{n lo hi:Int}(hk:k (bv (decide (n<lo)||decide (n>hi))) H):bf lv SA 59 H [iv n,iv lo,iv hi] k kp:=by
 refine bI (rs:=[.tmp 6]) (nt:=15) Tryz.f59 λhH hA=> ?_;simp only[bt,SY];refine ak ?_;by_cases h:n<lo
 ·have h1:decide (n<lo)=true:=by simpa using h
  refine ai ?_;simp only[seval,h1];refine bc ?_;rw[h1,ah']at hk;exact b9 hk
 ·have h1:decide (n<lo)=false:=by simpa using h
  refine ai ?_;simp only[seval,h1];refine bc ?_;rw[h1,Zy]at hk;exact b9 hk
theorem JY{b:fL}{hi e at':Int}(hb:sF b hi)(hk:k (.val .nilIface) H):bf lv SA 104 H [b.av,iv hi,iv e,iv at'] k kp:=by
 refine bI (rs:=[.tmp 8]) (nt:=33) Tryz.f104 λhH hA=> ?_;simp only[bt,SY,fL.av];have h1:(decide (b.min<0)||decide (b.min>hi))=false:=by have:=hb.min;have:=hb.le;have:=hb.max;simp;omega
 have h2:(decide (b.max<0)||decide (b.max>hi))=false:=by have:=hb.min;have:=hb.le;have:=hb.max;simp;omega
 have h3:decide (b.min>b.max)=false:=by have:=hb.le;simp;omega
 refine ak ?_;refine ai ?_;simp only[seval,fL.l];refine aJ ((sZ ?_));(try simp only[seval,h1]);refine aJ ((sZ ?_));(try simp only[seval,h2]);refine aD ?_;refine ai ?_;simp only[seval,h3];refine aD ?_;refine aO ?_;refine ak ?_;refine bc ?_;exact lB hH hk
theorem ai1(hk:k (bv true) H):bf lv SA 52 H [] k kp:=by
 refine bI (rs:=[.tmp 0]) (nt:=1) Tryz.f52 λhH hA=> ?_;simp only[bt,SY];refine ak ?_;refine ak ?_;refine bc ?_;exact b9 hk
theorem aiu{t:AV}(hk:k (bv false) H):bf lv SA 105 H [.val .nilIface,t] k kp:=by
 refine bI (rs:=[.tmp 4]) (nt:=42) Tryz.f105 λhH hA=> ?_;simp only[bt,SY];refine ak ?_;refine ai ?_;simp only[seval,F.DY];refine aD ?_;refine ak ?_;refine bc ?_;exact b9 hk
theorem ajg(hk:k (iv 0) H):bf lv SA 84 H [.val .nilIface] k kp:=by
 refine bI (rs:=[.tmp 2]) (nt:=9) Tryz.f84 λhH hA=> ?_;simp only[bt,SY];refine ak ?_;refine ak ?_;refine ai ?_;simp only[seval,F.amy];refine aJ ((aiu ?_));(try simp only[seval]);refine aD ?_;refine aO ?_;refine ak ?_;refine bc ?_;exact lB hH hk
theorem ajf{x:aj}{y:Seen}{at':Int}(hh:0<=y.hour/\y.hour<=x.hours)(hb:sF y.next 99)(hk:k (.val .nilIface) H):bf lv SA 83 H [x.av,y.av,iv at'] k kp:=by
 refine bI (rs:=[.tmp 6]) (nt:=19) Tryz.f83 λhH hA=> ?_;simp only[bt,SY,aj.av,Seen.av];have bP:x.l=[iv x.first,iv x.hours,iv x.am,cY x.seen,aL x.pieces,aL x.aA]:=rfl;have h1:(decide (y.hour<0)||decide (y.hour>x.hours))=false:=by simp;omega
 refine ai ?_;simp only[seval,bP,Seen.l];refine ak ?_;refine aJ ((sZ ?_));(try simp only[seval,h1]);refine aD ?_;refine aO ?_;refine ak ?_;refine aJ ((JY (b:=y.next) hb ?_));(try simp only[seval]);refine bc ?_;exact lB hH hk
theorem Ra{x:aj}{l:List aB}(hx:x.Ok)(hl:∀y∈l,IW x y)(qt:l.length<=4)(hk:k (.val .nilIface) H):bf lv SA 85 H [x.av,aL l] k kp:=by
 refine bI (rs:=[.tmp 4]) (nt:=34) Tryz.f85 λhH hA=> ?_;simp only[bt,SY,aj.av];have bP:x.l=[iv x.first,iv x.hours,iv x.am,cY x.seen,aL x.pieces,aL x.aA]:=rfl;have aX:∀(L:List aa),(H++L)[H.length]?=L[0]?:=λL=>aY H L 0;have Dm:=hx.hours;have yM:SD.wrap (x.hours-1)=x.hours-1:=bw _ (by omega);refine ai ?_;simp only[seval,bP];refine ai ?_;simp only[seval,aL];refine bY ?_;refine sQ l.length (λi:Nat=>[(11,iv i)]) (λ_=>_) (λi=>True) trivial (λbJ cm i cK _ R hR=> ?_);refine ak ?_;refine aD ?_;refine⟨λh=> ?_,λh=> ?_⟩
 ·have bB:i<l.length:=by omega
  obtain⟨y,hy⟩:=bZ bB;have DT:=hl y (S_ hy);have bC:SD.wrap ((i:Int)+1)=((i+1:Nat):Int):=by rw[bw _ (by omega)];rfl
  refine aO ?_;refine ai ?_;simp only[seval,xj hy,jR bB];refine ak ?_;refine aJ ((JY (b:=y.number) DT.number ?_));(try simp only[seval]);refine ai ?_;simp only[seval,F.DY];refine aD ?_;refine aO ?_;refine ai ?_;simp only[seval,aX,yM];refine aJ ((JY (b:=y.hour) DT.hour ?_));(try simp only[seval]);refine ai ?_;simp only[seval,F.DY];refine aD ?_;refine aO ?_;refine ai ?_;simp only[seval,bC];exact hR _ ⟨bB,trivial,Bt (pL rfl rfl) (by simp only[seval];simp[bm,Wk.refl]) bJ (by simp[eC])⟩
 ·refine bU ?_;refine ak ?_;refine bc ?_;exact lB hH hk
theorem J_{x:aj}(hx:x.Ok)(hk:k (iv 0) H):bf lv SA 62 H [x.av] k kp:=by
 refine bI (rs:=[.tmp 2]) (nt:=62) Tryz.f62 λhH hA=> ?_;simp only[bt,SY,aj.av];have bP:x.l=[iv x.first,iv x.hours,iv x.am,cY x.seen,aL x.pieces,aL x.aA]:=rfl;have aX:∀(L:List aa),(H++L)[H.length]?=L[0]?:=λL=>aY H L 0;have h1:(decide (x.first<0)||decide (x.first>90))=false:=by have:=hx.first;simp;omega
 have h2:(decide (x.hours<1)||decide (x.hours>3))=false:=by have:=hx.hours;simp;omega
 have h3:(decide (x.am<1)||decide (x.am>3))=false:=by have:=hx.am;simp;omega
 have g3:decide ((3:Int)<x.seen.length)=false:=by have:=hx.ua;simp;omega
 have g4:decide ((4:Int)<x.pieces.length)=false:=by have:=hx.ec;simp;omega
 have g5:decide ((3:Int)<x.aA.length)=false:=by have:=hx.de;simp;omega
 refine ai ?_;simp only[seval,bP];refine ai ?_;simp only[seval,aX];refine aJ ((sZ ?_));(try simp only[seval,h1,aX]);refine aJ ((sZ ?_));(try simp only[seval,h2,aX]);refine aJ ((sZ ?_));(try simp only[seval,h3]);refine aD ?_;refine aO ?_;refine ai ?_;simp only[seval,aX,cY,g3];refine aD ?_;refine aO ?_;refine ai ?_;simp only[seval,aX,cY];refine bY ?_;refine sQ x.seen.length (λi:Nat=>[(27,iv i)]) (λ_=>_) (λi=>True) trivial (λbJ cm i cK _ R hR=> ?_);refine ak ?_;refine aD ?_;refine⟨λh=> ?_,λh=> ?_⟩
 ·have bB:i<x.seen.length:=by omega
  obtain⟨y,hy⟩:=bZ bB;have DT:=hx.seen y (S_ hy);have bC:SD.wrap ((i:Int)+1)=((i+1:Nat):Int):=by have:=hx.ua;rw[bw _ (by omega)];rfl
  refine aO ?_;refine ai ?_;simp only[seval,Ie hy,jR bB];refine ai ?_;simp only[seval,aX];refine aJ ((ajf (x:=x) (y:=y) DT.1 DT.2 ?_));(try simp only[seval]);refine ai ?_;simp only[seval,F.DY];refine aD ?_;refine aO ?_;refine ai ?_;simp only[seval,bC];exact hR _ ⟨bB,trivial,Bt (pL rfl rfl) (by simp only[seval];simp[bm,Wk.refl]) bJ (by simp[eC])⟩
 ·refine bU ?_;refine ai ?_;simp only[seval,aX,aL,g4];refine aD ?_;refine aO ?_;refine ai ?_;simp only[seval,aX];refine aJ ((Ra (x:=x) (l:=x.pieces) hx hx.piece hx.ec ?_));(try simp only[seval]);refine ai ?_;simp only[seval,F.DY];refine aD ?_;refine aO ?_;refine ai ?_;simp only[seval,aX,g5];refine aD ?_;refine aO ?_;refine ai ?_;simp only[seval,aX];refine aJ ((Ra (x:=x) (l:=x.aA) hx hx.stub (by have:=hx.de;omega) ?_));(try simp only[seval]);refine aJ ((ajg ?_));(try simp only[seval]);refine bc ?_;exact lB hH hk
end
def O8 (lv:Bool)(H:List aa)(f:AV)(b:Bool):Prop:=∀(L:List aa)(k kp:AV->List aa->Prop),k (bv b) (H++L)->jb lv SA f (H++L) [] k kp
def qP:List AV:=[iv 0,iv 0,iv 0,.sl 0 [] .exact,.sl 0 [] .exact,.sl 0 [] .exact]
def eY (D:Kn):Int:=if D.has then 0 else 11
theorem Ah{x:aj}{deep:Int}{p:Nat}{H:List aa}{k kp:AV->List aa->Prop}{f:AV}{b:Bool}(hx:x.Ok)(hp:x.am=p)(hm:H[0]?=some .main)(hf:O8 true H f b)(iG:b=false->k (.aN [.agg qP,.agg jr,iv 3]) H)(cH:b=true->∀js D L mp,js.Perm (SU (p+1))->nY x deep js D->bL D->H.length<=mp->(H++L)[mp]?=some (setH D.aK)->k (.aN [x.av,.agg (D.l mp),iv (eY D)]) (H++L)):bf true SA 51 H [x.av,iv deep,f] k kp:=by
 refine bI (rs:=[.cell 6 76,.cell 7 88,.tmp 8]) (nt:=36) Tryz.f51 λhH hA=> ?_;simp only[bt,SY,aj.av];have bP:x.l=[iv x.first,iv x.hours,iv x.am,cY x.seen,aL x.pieces,aL x.aA]:=rfl;have aX:∀(L:List aa),(H++L)[H.length]?=L[0]?:=λL=>aY H L 0;have cQ:∀(L:List aa),(H++L)[H.length+1]?=L[1]?:=λL=>aY H L 1;have kF:∀(L:List aa),(H++L)[H.length+2]?=L[2]?:=λL=>aY H L 2;refine ak ?_;refine ai ?_;simp only[seval,aX,bP];refine aJ ((J_ (x:=x) hx ?_));(try simp only[seval]);refine ak ?_;refine aD ?_;refine aO ?_;refine ak ?_;refine xQ (hf _ _ _ ?_);(try simp only[seval]);refine aD ?_;refine⟨λhb=> ?_,λhb=> ?_⟩
 ·have dI:b=false:=by simpa using hb
  have:=iG dI;refine ak ?_;refine oe ?_;simp only[seval,cQ,kF];exact jA hH (Wk.refl _) (by simp[jK,sf,eC,qP,jr,Nn]) this
 ·have dI:b=true:=by simpa using hb
  refine aO ?_;refine ai ?_;simp only[seval,aX];refine⟨⟨rfl,rfl,rfl⟩,?_⟩;have rG:∀(L:List aa),(H++L)[H.length+3]?=L[3]?:=λL=>aY H L 3;refine ai ?_;simp only[seval,rG];refine aJ ((ajc (x:=x) hx (EI hx) hp (fO hm) λjs D L5 iF jD dZ hl5=> ?_));have fq:=λmp=>Kn.len dZ mp;have jE:=vg D;obtain⟨z0,z1,z2,z3,z4,rfl⟩:∃z0 z1 z2 z3 z4,L5=[z0,z1,z2,z3,z4]:=by
   match L5,hl5 with
   |[a,b,c,d,e],_=>exact⟨a,b,c,d,e,rfl⟩
  (try simp only[seval,fq]);refine⟨jE _,?_⟩;have gr:∀(L:List aa)(j:Nat),(H++L)[H.length+j]?=L[j]?:=λL j=>aY H L j;have A1:∀(L:List aa)(j:Nat)(y:aa),(H++L).set (H.length+j) y=H++L.set j y:=λL j y=>dJ H L j y;have akS:∀(L:List aa),(H++L)[H.length+10]?=L[10]?:=λL=>aY H L 10;obtain⟨mp,tG⟩:∃mp,mp=H.length+4+5:=⟨_,rfl⟩;rw[<- tG];refine ai ?_;simp only[seval,akS,Kn.CP];obtain⟨jW,eU⟩:∃jW:List AV->List AV->List aa,∀u v,jW u v=H++[.cells x.l 26,.cells u 76,.cells v 88,.cells x.l 76,z0,z1,z2,z3,z4,setH D.aK,.cells (D.l mp) 88]:=⟨_,λ_ _=>rfl⟩;have p1:∀u v,(jW u v)[H.length+1]?=some (.cells u 76):=λu v=>by rw[eU,gr];rfl
  have p2:∀u v,(jW u v)[H.length+2]?=some (.cells v 88):=λu v=>by rw[eU,gr];rfl
  have p3:∀u v,(jW u v)[H.length+3]?=some (.cells x.l 76):=λu v=>by rw[eU,gr];rfl
  have p10:∀u v,(jW u v)[H.length+10]?=some (.cells (D.l mp) 88):=λu v=>by rw[eU,gr];rfl
  have s1:∀u v w,(jW u v).set (H.length+1) (.cells w 76)=jW w v:=λu v w=>by rw[eU,A1,eU];rfl
  have s2:∀u v w,(jW u v).set (H.length+2) (.cells w 88)=jW u w:=λu v w=>by rw[eU,A1,eU];rfl
  have dY:∀(e:Int),e=eY D->k (.aN [x.av,.agg (D.l mp),iv e]) (jW x.l (D.l mp)):=λe he=>by
   rw[he,eU];refine cH dI js D _ mp iF jD dZ (by omega) ?_;rw[tG,show H.length+4+5=H.length+9 from rfl,gr];rfl
  have e0:=eU qP jr;simp only[qP,jr,bP,iv,bv,wv,TJ,Vm,UL,push_cast,Int.cast_ofNat_Int]at e0;rw[<- e0];clear e0;have dw:x.l.length=6:=rfl;have jY:jr.length=28:=rfl;have hzr:qP.length=6:=rfl;have fx:TS 6 x.l=x.l:=rfl;have G0:TS 28 (D.l mp)=D.l mp:=SS (by rw[fq];exact SO _);have wE:∀l:List AV,l.length=28->D.l mp++TH (D.l mp).length l=D.l mp:=λl hl=>by rw[fq,TY (by omega),SN]
  have aa6:∀a∈x.l,a.leaf=true:=λa ha=>by
   simp only[aj.l,SK,SZ,or_false]at ha;rcases ha with rfl|rfl|rfl|rfl|rfl|rfl<;>rfl
  refine aD ?_;refine⟨λhh=> ?_,λhh=> ?_⟩
  ·have KM:D.has=false:=(by simpa using hh);have:=dY 11 (by rw[eY,KM];rfl);refine o_ [2,3] [0,1,2,3,4] (λD'=>bif isDone 3 D' then jW x.l (D.l mp)else bif isDone 2 D' then jW x.l jr else jW qP jr) ?_;simp only[seval,p1,p2,p3,p10,s1,s2,fq,dw,jY,hzr,jE];rw[fx,G0];refine⟨rfl,SO _,aa6,rfl,fq _,by rw[fq];exact SO _,jE _,by rw[wE _ rfl];rfl,?_⟩;refine oe ?_;simp only[seval,p1,p2,fq];rw[G0];refine d_ (a:=[x.av,.agg (D.l mp),iv 11]) rfl ?_;exact b9 this
  ·have KM:D.has=true:=(by simpa using hh);have:=dY 0 (by rw[eY,KM];rfl);refine aO ?_;refine o_ [2,3] [0,1,2,3,4] (λD'=>bif isDone 3 D' then jW x.l (D.l mp)else bif isDone 2 D' then jW x.l jr else jW qP jr) ?_;simp only[seval,p1,p2,p3,p10,s1,s2,fq,dw,jY,hzr,jE];rw[fx,G0];refine⟨rfl,SO _,aa6,rfl,fq _,by rw[fq];exact SO _,jE _,by rw[wE _ rfl];rfl,?_⟩;refine oe ?_;simp only[seval,p1,p2,fq];rw[G0];refine d_ (a:=[x.av,.agg (D.l mp),iv 0]) rfl ?_;exact b9 this
namespace Tk
def fG (s:Nat)(more:Int)(i:Nat):List Int:=((SU i).filter s.testBit).map λn:Nat=>(n:Int)+more
theorem abA(s:Nat)(more:Int)(i:Nat):fG s more (i+1)=if s.testBit i then fG s more i++[(i:Int)+more]else fG s more i:=by
 unfold fG;rw[Vp,List.filter_append,TG];by_cases h:s.testBit i=true
 ·simp[h]
 ·simp[h]
theorem Nh(s:Nat)(more:Int)(i:Nat):(fG s more i).length<=i:=by
 unfold fG;rw[S9];exact UH (List.length_filter_le _ _) (by simp)
end Tk
theorem z1:gU (SF .i64 0) 1=[iv 0]:=rfl
section
variable {lv:Bool}{H:List aa}{k kp:AV->List aa->Prop}
theorem J8{s:Nat}{more:Int}(hs:s<65536)(hm:0<=more/\more<=1000)(hk:k (br (fG s more 16)) H):bf lv SA 56 H [wv s,iv more] k kp:=by
 refine bI (rs:=[.tmp 4]) (nt:=21) Tryz.f56 λhH hA=> ?_;simp only[bt,SY];refine ak ?_;refine ak ?_
 (repeat apply im);refine v5 (t:=5) (sz:=1) (el:=3) (by simp only[seval]<;>rfl) ?_
 refine ak ?_;refine bY ?_;refine gF 16 (λi:Nat=>[(5,.sl (fG s more i).length ((fG s more i).map iv) (.opn H.length)),(7,iv i)]) (λi=>H++[.tail (fG s more i).length 1 3]) (λ_=>True) (λ_ _=>rfl) (by simp only[seval];simp[bm,Wk.refl];exact Wk.refl _) rfl (λ_ _ _=>by simp) trivial (λbJ cm i cK hi R hR=> ?_);refine ak ?_;refine aD ?_;refine⟨λh=> ?_,λh=> ?_⟩
 ·have hl:i<16:=by omega
  have fS:SD.wrap ((i:Int)+1)=((i+1:Nat):Int):=by rw[bw _ (by omega)];rfl
  have uO:SD.wrap ((i:Int)+more)=(i:Int)+more:=bw _ (by omega);have iu:=Nh s more i;refine aO ?_;refine ak ?_;refine ak ?_;refine aJ ((x8 hs ?_));(try simp only[seval]);refine aD ?_;refine⟨λhb=> ?_,λhb=> ?_⟩
  ·refine ai ?_;simp only[seval,z1,uO]
   first|refine⟨by decide,by omega,?_⟩|refine⟨by omega,?_⟩
   refine ai ?_;simp only[seval,fS];have dc:fG s more (i+1)=fG s more i++[(i:Int)+more]:=(by rw[abA,if_pos hb]);refine hR _ ⟨hl,trivial,?_⟩;rw[dc,TG,S5];exact cT
  ·refine aO ?_;refine ai ?_;simp only[seval,fS];have dc:fG s more (i+1)=fG s more i:=(by rw[abA,if_neg (by simpa using hb)]);refine hR _ ⟨hl,trivial,?_⟩;rw[dc];exact cT
 ·refine bU ?_;have:i=16:=by omega
  subst this;refine ak ?_;refine bc ?_;rw[br]at hk;exact jA hH (jq _ _ _) (by simp[vt,eC]) hk
theorem aje{x:aj}{n:Int}{ir:Nat}(hx:x.Ok)(hr:H[ir]?=some (.cells x.l 26))(hk:k (bv (decide (n<0)||decide (n>(x.pieces.length:Int)-1))) H):bf lv SA 82 H [iv n,.op ir 0] k kp:=by
 refine bI (rs:=[.tmp 3]) (nt:=10) Tryz.f82 λhH hA=> ?_;simp only[bt,SY];have bP:x.l=[iv x.first,iv x.hours,iv x.am,cY x.seen,aL x.pieces,aL x.aA]:=rfl;have nF:=hx.ec;have hw:SD.wrap ((x.pieces.length:Int)-1)=(x.pieces.length:Int)-1:=bw _ (by omega);refine ak ?_;refine ai ?_;simp only[seval,hr,bP,aL,hw];refine aJ ((sZ ?_));(try simp only[seval]);refine bc ?_;exact b9 hk
theorem ait{ns:List Int}{f:AV}{e:End}(gK:ns.length<=4)(g:Int->Bool)(hf:∀n∈ns,∀(k kp:AV->List aa->Prop),k (bv (g n)) H->jb lv SA f H [iv n] k kp)(hk:k (iv (match ns.findIdx? g with|some i=>(i:Int)|none=> -1)) H):bf lv SA 103 H [.sl ns.length (ns.map iv) e,f] k kp:=by
 refine bI (rs:=[.tmp 4]) (nt:=19) Tryz.f103 λhH hA=> ?_;simp only[bt,SY];refine ak ?_;refine ak ?_;refine bY ?_;refine sQ ns.length (λi:Nat=>[(8,iv i)]) (λ_=>_) (λi=>∀n∈ns.take i,g n=false) (by simp) (λbJ cm i cK hi R hR=> ?_);refine ak ?_;refine aD ?_;refine⟨λh=> ?_,λh=> ?_⟩
 ·have bB:i<ns.length:=by omega
  obtain⟨n,hn⟩:=bZ bB;have fS:SD.wrap ((i:Int)+1)=((i+1:Nat):Int):=by rw[bw _ (by omega)];rfl
  refine aO ?_;refine ak ?_;refine ai ?_;simp only[seval,ff hn,jR bB];refine xQ (hf n (S_ hn) _ _ ?_);(try simp only[seval]);refine aD ?_;refine⟨λhg=> ?_,λhg=> ?_⟩
  ·refine ak ?_;refine bc ?_;have:ns.findIdx? g=some i:=by
    rw[Xx];refine⟨bB,?_,λj hj=> ?_⟩
    ·rw[SW bB]at hn;cases hn;exact hg
    ·have:=hi ns[j] (by rw[List.mem_take_iff_getElem];exact⟨j,by omega,rfl⟩);simp[this]
   rw[this]at hk;exact b9 hk
  ·refine aO ?_;refine ai ?_;simp only[seval,fS];refine hR _ ⟨bB,λm hm=> ?_,cT⟩;rw[UZ,hn]at hm;rcases SQ.1 hm with h'|h'
   ·exact hi m h'
   ·simp at h';rw[h'];simpa using hg
 ·have:i=ns.length:=by omega
  subst this;rw[TD]at hi;refine bU ?_;refine ak ?_;refine bc ?_;have:ns.findIdx? g=none:=by rw[Yh];exactλn hn=>hi n hn
  rw[this]at hk;exact b9 hk
theorem ajd{ns:List Int}{f:AV}{e:End}(gK:ns.length<=4)(g:Int->Bool)(hf:∀n∈ns,∀(k kp:AV->List aa->Prop),k (bv (g n)) H->jb lv SA f H [iv n] k kp)(hk:k (bv (ns.any g)) H):bf lv SA 81 H [.sl ns.length (ns.map iv) e,f] k kp:=by
 refine bI (rs:=[.tmp 4]) (nt:=9) Tryz.f81 λhH hA=> ?_;simp only[bt,SY];refine ak ?_;refine ak ?_;refine aJ ((ait gK g hf ?_));(try simp only[seval]);refine bc ?_;refine b9 ?_;have:decide ((match ns.findIdx? g with|some i=>(i:Int)|none=> -1)>=0)=ns.any g:=by
  cases h:ns.findIdx? g with
  |none=>
   rw[Yh]at h;have:ns.any g=false:=by
    rw[List.any_eq_false];exactλn hn=>by simp[h n hn]
   rw[this];rfl
  |some i=>
   rw[Xx]at h;obtain⟨h1,h2,_⟩:=h;have:ns.any g=true:=Ur.2 ⟨ns[i],Wz h1,h2⟩;rw[this];simp
 rw[this];exact hk
def zg (x:aj)(ns:List Int):Bool:= !(ns.any λn=>decide (n<0)||decide (n>(x.pieces.length:Int)-1))
theorem Kd{x:aj}{ns:List Int}{e:End}{il ir:Nat}(hx:x.Ok)(gK:ns.length<=4)(hl:H[il]?=some (.cells [.sl ns.length (ns.map iv) e] 22))(hr:H[ir]?=some (.cells x.l 26))(hk:k (bv (zg x ns)) H):bf lv SA 80 H [.op il 0,.op ir 0] k kp:=by
 refine bI (rs:=[.tmp 2]) (nt:=7) Tryz.f80 λhH hA=> ?_;simp only[bt,SY];refine ak ?_;refine ai ?_;simp only[seval,hl,Ub,UE,Uj,TR];refine aJ ((ajd (ns:=ns) gK (λn=>decide (n<0)||decide (n>(x.pieces.length:Int)-1)) (λn hn k kp hk=> ?_) ?_))
 ·exact di (aje hx hr hk)
 (try simp only[seval]);refine bc ?_;exact b9 hk
theorem J9{x:aj}{ns:List Int}{e:End}(hk:k (.fn (.func 80) [] [.op (H.length+1) 0,.op H.length 0]) (H++[.cells x.l 26,.cells [.sl ns.length (ns.map iv) e] 22])):bf lv SA 58 H [x.av,.sl ns.length (ns.map iv) e] k kp:=by
 refine bI (rs:=[.tmp 4]) (nt:=6) Tryz.f58 λhH hA=> ?_;simp only[bt,SY,aj.av];refine ak ?_;refine ai ?_;simp only[seval,Ub,UE,Uj,TR];refine bc ?_;exact b9 hk
end
open Go.Conc Go.Proofs Go.Gg.Tk
structure aZ where
 aC:List Int
 g:Int
 s:Int
def vJ (τ:aZ):aa:=.cells [br τ.aC,.val (.int .i64 τ.g),.val (.int .u64 τ.s)] 73
def IL (a b:Int):Int:=TA.wrap (Ui TA.bits a^^^Ui TA.bits b).toNat
def aeq (g:Int):Int:=TA.wrap (TA.wrap (TA.wrap g* 15074714826142052245)+11400714819323198485)
def OR (τ:aZ):Int:=match τ.aC[τ.g.toNat]?with
 |some x=>IL (aeq τ.g) (TA.wrap (TA.wrap x* 12620523164723586485))
 |none=>aeq τ.g
def an5 (s w:Int):Int:=TA.wrap (TA.wrap (s+w)* 13787848793156543929)
def an6 (s:Int):Int:=IL s (s.fdiv (2^min 31 TA.bits))
def HQ (s:Int):Int:=(IL s (s.fdiv (2^min 27 TA.bits))).fdiv (2^min 9 TA.bits)
def tick (τ:aZ):aZ:=⟨τ.aC,τ.g+1,an6 (an5 τ.s (OR τ))⟩
def xe (τ:aZ):Int:=HQ (TA.wrap ((tick τ).s* 10723151780598845931))
theorem aef(n:Int)(h0:0<=n)(h:n<2^64):TA.wrap n=n:=by
 have h1:TA.bits=64:=rfl;have h2:TA.signed=false:=rfl;unfold Xg;rw[h1,h2];simp;omega
theorem asP(n:Int):0<=TA.wrap n/\TA.wrap n<2^64:=by
 have h1:TA.bits=64:=rfl;have h2:TA.signed=false:=rfl;unfold Xg;rw[h1,h2];simp;omega
theorem acm(s:Int):0<=HQ s/\HQ s<2^55:=by
 unfold HQ IL;have h:=asP (Ui TA.bits s^^^Ui TA.bits (s.fdiv (2^min 27 TA.bits))).toNat;have e:(2:Int)^min 9 TA.bits=512:=by decide
 rw[e,Int.fdiv_eq_ediv_of_nonneg _ (show (0:Int)<=512 by decide)];omega
def dg (τ:aZ)(n:Int):Int:=if n<1 then 0 else(xe τ).tmod (n+1)
theorem kM(τ:aZ)(n:Int):0<=dg τ n/\(dg τ n<=n\/dg τ n=0):=by
 unfold dg;split
 ·omega
 ·have h:=(acm (TA.wrap ((tick τ).s* 10723151780598845931))).1;have h1:=Int.tmod_nonneg (n+1) h;have h2:=Int.tmod_lt_of_pos (xe τ) (show 0<n+1 by omega);unfold xe at h2⊢;omega
def BO (τ:aZ)(lo hi:Int):Int:=lo+dg τ (hi-lo)
theorem aen(τ:aZ){lo hi:Int}(h:lo<=hi):lo<=BO τ lo hi/\BO τ lo hi<=hi:=by
 have:=kM τ (hi-lo);unfold BO;omega
def aqd (τ:aZ)(n:Int):Bool:=dg τ (n-1)==0
structure dH (Gf:aZ->List aa)(t N:Nat):Prop where
 len:∀τ,(Gf τ).length=N
 get:∀τ,(Gf τ)[t]?=some (vJ τ)
 set:∀τ τ',(Gf τ).set t (vJ τ')=Gf τ'
 ok:∀m τ τ',(∀z∈Gf τ,eQ m z)->∀z∈Gf τ',eQ m z
theorem dH.more{Gf:aZ->List aa}{t N:Nat}(h:dH Gf t N)(L:List aa):dH (λτ=>Gf τ++L) t (N+L.length)where
 len:=λτ=>by simp[h.len]
 get:=λτ=>fO (h.get τ)
 set:=λτ τ'=>by show (Gf τ++L).set t _=_;rw[UX _ _ (eN (h.get τ)),h.set]
 ok:=λm τ τ' hk z hz=>(SQ.1 hz).elim (λhz=>h.ok m τ τ' (λv hv=>hk v (Th _ hv)) z hz) (λhz=>hk z (S4 _ hz))
theorem dH.aq{Gf:aZ->List aa}{t N:Nat}(h:dH Gf t N){τ:aZ}(hH:bH (Gf τ))(τ':aZ):bH (Gf τ'):=λz hz=>by
 have:=h.ok N τ τ' (λw hw=>by have:=hH w hw;rwa [h.len]at this) z hz;rwa [h.len]
section
variable {Gf:aZ->List aa}{t N:Nat}(h:dH Gf t N)
include h
theorem dH.g0(τ:aZ)(L:List aa):(Gf τ++L)[N]?=L[0]?:=by have:=vX (Gf τ) L 0;rwa [h.len]at this
theorem dH.g1(τ:aZ)(L:List aa):(Gf τ++L)[N+1]?=L[1]?:=by have:=vX (Gf τ) L 1;rwa [h.len]at this
theorem dH.g2(τ:aZ)(L:List aa):(Gf τ++L)[N+1+1]?=L[2]?:=by have:=vX (Gf τ) L 2;rwa [h.len]at this
theorem dH.g3(τ:aZ)(L:List aa):(Gf τ++L)[N+1+1+1]?=L[3]?:=by have:=vX (Gf τ) L 3;rwa [h.len]at this
theorem dH.h2(τ:aZ)(L:List aa):(Gf τ++L)[N+2]?=L[2]?:=h.g2 τ L
theorem dH.h3(τ:aZ)(L:List aa):(Gf τ++L)[N+3]?=L[3]?:=h.g3 τ L
theorem dH.s0(τ:aZ)(L:List aa)(x:aa):(Gf τ++L).set N x=Gf τ++L.set 0 x:=by have:=vY (Gf τ) L 0 x;rwa [h.len]at this
theorem dH.s1(τ:aZ)(L:List aa)(x:aa):(Gf τ++L).set (N+1) x=Gf τ++L.set 1 x:=by have:=vY (Gf τ) L 1 x;rwa [h.len]at this
theorem dH.s2(τ:aZ)(L:List aa)(x:aa):(Gf τ++L).set (N+1+1) x=Gf τ++L.set 2 x:=by have:=vY (Gf τ) L 2 x;rwa [h.len]at this
theorem dH.s3(τ:aZ)(L:List aa)(x:aa):(Gf τ++L).set (N+1+1+1) x=Gf τ++L.set 3 x:=by have:=vY (Gf τ) L 3 x;rwa [h.len]at this
theorem dH.t2(τ:aZ)(L:List aa)(x:aa):(Gf τ++L).set (N+2) x=Gf τ++L.set 2 x:=h.s2 τ L x
theorem dH.t3(τ:aZ)(L:List aa)(x:aa):(Gf τ++L).set (N+3) x=Gf τ++L.set 3 x:=h.s3 τ L x
end
theorem aoD(m:Nat)(τ:aZ):eQ m (vJ τ):=by
 intro a ha;simp only[SK,SZ,or_false]at ha;rcases ha with rfl|rfl|rfl
 ·rw[yV];trivial
 ·exact .val _
 ·exact .val _
theorem asw(H:List aa):dH (λτ=>H++[vJ τ]) H.length (H.length+1)where
 len:=λτ=>by simp
 get:=λτ=>by simp
 set:=λτ τ'=>by simp
 ok:=λm τ τ' hk z hz=>by
  rcases SQ.1 hz with hz|hz
  ·exact hk z (Th _ hz)
  ·rw[S8.1 hz];exact aoD _ _
structure aZ.Ok (τ:aZ)(b:Int):Prop where
 g0:0<=τ.g
 g:τ.g<=b
 len:τ.aC.length<=2^50
section
variable {lv:Bool}{H:List aa}{k kp:AV->List aa->Prop}{Gf:aZ->List aa}{t N:Nat}{τ:aZ}{b:Int}
theorem aiJ{aC:List Int}(hk:k (.op H.length 0) (H++[vJ ⟨aC,0,7640891576956012809⟩])):bf lv SA 16 H [br aC] k kp:=by
 refine bI (rs:=[.tmp 2]) (nt:=6) Tryz.f16 λhH hA=> ?_;simp only[bt,SY];refine ak ?_;refine ak ?_;refine bc ?_;exact b9 hk
theorem aZ.Ok.tick(h:τ.Ok b):(tick τ).Ok (b+1):=⟨by have:=h.g0;show 0<=τ.g+1;omega,by have:=h.g;show τ.g+1<=b+1;omega,h.len⟩
theorem aZ.Ok.mono{b':Int}(h:τ.Ok b)(hb:b<=b'):τ.Ok b':=⟨h.g0,by have:=h.g;omega,h.len⟩
theorem ai4(hT:dH Gf t N)(hτ:τ.Ok b)(hb:b<2^60)(hk:k (.val (.int .u64 (xe τ))) (Gf (tick τ))):bf lv SA 55 (Gf τ) [.op t 0] k kp:=by
 obtain⟨aC,g,s⟩:=τ;obtain⟨lG,hgb,hln⟩:=hτ;simp only at lG hgb hln;refine bI (rs:=[.tmp 2]) (nt:=76) Tryz.f55 λhH hA=> ?_;simp only[bt,SY];have hg:∀τ,(Gf τ)[t]?=some (.cells [.sl τ.aC.length (τ.aC.map iv) .shut,.val (.int .i64 τ.g),.val (.int .u64 τ.s)] 73):=hT.get;have hs:∀τ (Eh:List Int) g' s',(Gf τ).set t (.cells [.sl Eh.length (Eh.map iv) .shut,.val (.int .i64 g'),.val (.int .u64 s')] 73)=Gf ⟨Eh,g',s'⟩:=λτ Eh g' s'=>hT.set τ ⟨Eh,g',s'⟩;obtain⟨n,rfl⟩:∃n:Nat,g=n:=⟨g.toNat,by omega⟩;have hw:SD.wrap ((n:Int)+1)=n+1:=bw _ (by omega);refine ak ?_;refine ai ?_;simp only[seval,hg];refine ek 9 ?_;simp only[seval,hg];refine aD ?_;refine⟨λh=> ?_,λh=> ?_⟩
 ·have jG:n<aC.length:=by simpa using h
  obtain⟨x,hx⟩:=bZ jG;refine ek 13 ?_;simp only[seval,hg,ff hx,jR jG,Cm];refine ai ?_;simp only[seval,hg,hw,hs];refine ai ?_;simp only[seval,hg,hs];refine ek 11 ?_;simp only[seval,hg,hs,Cl,Cm];refine ai ?_;simp only[seval,hg];refine ai ?_;simp only[seval,Cl,Cm];refine bc ?_;refine b9 ?_;unfold xe tick OR at hk;simp only[VR,hx]at hk;exact hk
 ·have jG:¬n<aC.length:=by simpa using h
  have hx:aC[n]?=none:=by rw[Ux];omega
  refine aO ?_;refine ai ?_;simp only[seval,hg,hw,hs];refine ai ?_;simp only[seval,hg,hs];refine ek 11 ?_;simp only[seval,hg,hs,Cl,Cm];refine ai ?_;simp only[seval,hg];refine ai ?_;simp only[seval,Cl,Cm];refine bc ?_;refine b9 ?_;unfold xe tick OR at hk;simp only[VR,hx]at hk;exact hk
theorem oi{n:Int}(hT:dH Gf t N)(hτ:τ.Ok b)(hb:b<2^60)(hn:n<2^60)(hk:k (iv (dg τ n)) (Gf (tick τ))):bf lv SA 25 (Gf τ) [.op t 0,iv n] k kp:=by
 refine bI (rs:=[.tmp 4]) (nt:=16) Tryz.f25 λhH hA=> ?_;simp only[bt,SY];refine ak ?_;refine ak ?_;refine aJ ((ai4 hT hτ hb ?_));(try simp only[seval]);refine ak ?_;refine aD ?_;refine⟨λh=> ?_,λh=> ?_⟩
 ·have h:n<1:=by simpa using h
  refine ak ?_;refine bc ?_;rw[dg,if_pos h]at hk;exact b9 hk
 ·have h:¬n<1:=by simpa using h
  have ho:=acm (TA.wrap ((tick τ).s* 10723151780598845931));have bC:TA.wrap n=n:=aef n (by omega) (by omega);have fY:TA.wrap (n+1)=n+1:=aef _ (by omega) (by omega);have oH:n+1≠0:=by omega
  have hr:=kM τ n;rw[dg,if_neg h]at hk hr;have wY:SD.wrap ((xe τ).tmod (n+1))=(xe τ).tmod (n+1):=bw _ (by omega);refine aO ?_;refine ai ?_;simp only[seval,afr,bC,fY,wY,oH];refine bc ?_;exact b9 hk
theorem Q3{lo hi:Int}(hT:dH Gf t N)(hτ:τ.Ok b)(hb:b<2^60)(pz:0<=lo/\lo<2^20)(Gt: -1<=hi/\hi<2^20)(hk:k (iv (BO τ lo hi)) (Gf (tick τ))):bf lv SA 23 (Gf τ) [.op t 0,iv lo,iv hi] k kp:=by
 refine bI (rs:=[.tmp 6]) (nt:=14) Tryz.f23 λhH hA=> ?_;simp only[bt,SY];have bC:SD.wrap (hi-lo)=hi-lo:=bw _ (by omega);have hr:=kM τ (hi-lo);have fY:SD.wrap (lo+dg τ (hi-lo))=lo+dg τ (hi-lo):=bw _ (by omega);refine ak ?_;refine ai ?_;simp only[seval,bC];refine aJ ((oi hT hτ hb (by omega) ?_));(try simp only[seval,fY]);refine bc ?_;exact b9 hk
theorem FS{n:Int}(hT:dH Gf t N)(hτ:τ.Ok b)(hb:b<2^60)(hn:0<=n/\n<2^20)(hk:k (bv (aqd τ n)) (Gf (tick τ))):bf lv SA 46 (Gf τ) [.op t 0,iv n] k kp:=by
 refine bI (rs:=[.tmp 4]) (nt:=10) Tryz.f46 λhH hA=> ?_;simp only[bt,SY];have bC:SD.wrap (n-1)=n-1:=bw _ (by omega);refine ak ?_;refine ai ?_;simp only[seval,bC];refine aJ ((oi hT hτ hb (by omega) ?_));(try simp only[seval]);refine bc ?_;exact b9 hk
end
theorem xa{α:Type}{xs:List α}{i:Nat}{x:α}(h:xs[i]?=some x):x∈xs:=S_ h
section
variable {lv:Bool}{H:List aa}{k kp:AV->List aa->Prop}
inductive sN:List AV->List AV->Prop
 |nil:sN [] []
 |cons {a b:AV} {l m:List AV} (h:Wk a b) (t:sN l m):sN (a::l) (b::m)
theorem sN.len{l m:List AV}(h:sN l m):l.length=m.length:=by
 induction h with
 |nil=>rfl
 |cons _ _ ih=>simp[ih]
theorem sN.at{l m:List AV}(h:sN l m):∀(i:Nat)(a b:AV),m[i]?=some a->l[i]?=some b->Wk b a:=by
 induction h with
 |nil=>intro i a b h;simp at h
 |cons h _ ih=>
  intro i a b h1 h2
  match i with
  |0=>cases h1;cases h2;exact h
  |i+1=>exact ih i a b h1 h2
theorem OP{l l':List AV}(h:sN l l'):Wk (.agg l) (.agg l'):=λE v hd=>by
 cases hd with
 |agg hs h1=>
  refine .agg (by rw[hs,h.len]) λi x hx=> ?_;obtain⟨y,hy⟩:=bZ (xs:=l) (i:=i) (by rw[h.len];exact eN hx);exact h.at i x y hx hy E _ (h1 i y hy)
theorem OQ{n:Nat}{l l':List AV}{e:End}(hl:l.length=l'.length)(h:∀(i:Nat) a b,l'[i]?=some a->l[i]?=some b->Wk b a):Wk (.sl n l e) (.sl n l' e):=λE v hd=>by
 cases hd with
 |sl b o cap f hc he h1 h2=>
  refine .sl b o cap f hc he (λi hi=>h1 i (by omega)) λi x hx=> ?_;obtain⟨y,hy⟩:=bZ (xs:=l) (i:=i) (by have:=eN hx;omega);exact h i x y hx hy E _ (h2 i y hy)
 |nil he=>
  have:l'=[]:=UF hl.symm;subst this;exact .nil he
theorem NH:(1<=2^24)=True:=by simp
theorem L6{H L:List aa}(h:bH H)(hL:∀z∈L,∀n,eQ n z):bH (H++L):=λz hz=>by
 rcases SQ.1 hz with h'|h'
 ·exact(h z h').mono (by simp)
 ·exact hL z h' _
theorem H7{base Vi Vn T:List (Nat×AV)}{H H':List aa}(G:List aa)(hk:sI T (Vi++base) Vn)(hv:∀p∈Vn,∃b,look T p.1=some b/\Wk b p.2)(aq:bH H)(hlt:∀p∈Vn,Lt H.length p.2)(hG:H'=H++G):q_ base Vi Vn H ⟨T,H'⟩:=⟨hk,hv,G,hG,.inr ⟨aq,hlt⟩⟩
theorem asf{xs ys:List Int}{i:Nat}{x y:Int}(hx:xs[i]?=some x)(hy:ys[i]?=some y)(h:xs.take i=ys.take i)(e:x=y):xs.take (i+1)=ys.take (i+1):=by
 obtain⟨hj,rfl⟩:=SL.1 hx;obtain⟨hk,rfl⟩:=SL.1 hy;rw[XN hj,XN hk,h,e]
theorem x6{xs ys:List Int}{e e':End}(hx:xs.length<2^60)(hk:k (bv (decide (xs=ys))) H):bf lv SA 20 H [.sl xs.length (xs.map iv) e,.sl ys.length (ys.map iv) e'] k kp:=by
 refine bI (rs:=[.tmp 4]) (nt:=26) Tryz.f20 λhH hA=> ?_;simp only[bt,SY];refine ak ?_;refine ak ?_;refine aD ?_;refine⟨λh=> ?_,λh=> ?_⟩
 ·have h:xs≠ys:=λe=>by subst e;simp at h
  refine ak ?_;refine bc ?_;rw[decide_eq_false h]at hk;exact b9 hk
 ·have h:xs.length=ys.length:=by
   have h:(xs.length:Int)=ys.length:=(by simpa using h);omega
  refine aO ?_;refine ak ?_;refine bY ?_;refine sQ xs.length (λi:Nat=>[(5,iv i)]) (λ_=>_) (λi=>xs.take i=ys.take i) (by simp) (λbJ cm i cK hi R hR=> ?_);refine ak ?_;refine aD ?_;refine⟨λh2=> ?_,λh2=> ?_⟩
  ·have hlt:i<xs.length:=(by omega);obtain⟨x,DO⟩:=bZ hlt;obtain⟨y,u_⟩:=bZ (xs:=ys) (i:=i) (by omega);refine aO ?_;refine bY ?_;refine ek 8 ?_;simp only[seval,ff DO,ff u_,jR hlt,jR (eN u_)];refine aD ?_;refine⟨λh3=> ?_,λh3=> ?_⟩
   ·have h3:xs≠ys:=λe=>(by subst e;rw[DO]at u_;cases u_;simp at h3);refine ak ?_;refine bc ?_;rw[decide_eq_false h3]at hk;exact b9 hk
   ·have h3:x=y:=(by simpa using h3);refine aO ?_;refine ak ?_;refine hR _ ⟨hlt,asf DO u_ hi h3,?_⟩;rw[bw _ (by omega)];exact cT
  ·have jC:i=xs.length:=(by omega);refine bU ?_;refine ak ?_;refine bc ?_;have h3:xs=ys:=by
    rw[jC,TD]at hi;rw[hi,h,TD]
   rw[decide_eq_true h3]at hk;exact b9 hk
end
def fM (x:aj)(deep:Int)(D:Kn):Prop:=∃(p:Nat)(js:List Nat),x.am=p/\js.Perm (SU (p+1))/\nY x deep js D/\bL D
theorem vE(x:aj):∀a∈x.l,a.leaf=true:=λa ha=>by
 simp only[aj.l,SK,SZ,or_false]at ha;rcases ha with rfl|rfl|rfl|rfl|rfl|rfl<;>rfl
section
variable {H:List aa}{k kp:AV->List aa->Prop}
theorem Jc{lv:Bool}:O8 lv H (.fn (.func 52) [] []) true:=λL k kp hk=>di (ai1 hk)
theorem aiN{x:aj}(hx:x.Ok)(hm:H[0]?=some .main)(hk:∀D,fM x 0 D->k (.aN [iv (if D.has then(D.aK.length:Int)else 0),iv 0]) H):bf true SA 21 H [x.av] k kp:=by
 refine bI (rs:=[.tmp 2,.tmp 3]) (nt:=19) Tryz.f21 λhH hA=> ?_;simp only[bt,SY,aj.av];have hp:=hx.am;obtain⟨p,iy⟩:∃p:Nat,x.am=p:=⟨x.am.toNat,by omega⟩;have bP:x.l=[iv x.first,iv x.hours,iv x.am,cY x.seen,aL x.pieces,aL x.aA]:=rfl;have aX:∀(L:List aa),(H++L)[H.length]?=L[0]?:=λL=>aY H L 0;have dw:x.l.length=6:=rfl;have fx:TS 6 x.l=x.l:=rfl;refine ak ?_;refine ai ?_;simp only[seval,aX,dw,fx];refine aJ ((Ah (x:=x) hx iy (fO hm) Jc (λh=>by cases h) λ_ js D L mp iF jD dZ tG hg=> ?_));have ow:fM x 0 D:=⟨p,js,iy,iF,jD,dZ⟩;have fq:=Kn.len dZ mp;have jE:=vg D mp;obtain⟨B,hB⟩:∃B,B=H++[aa.cells x.l 26]++L:=⟨_,rfl⟩;rw[<- hB]at hg⊢;(try simp only[seval,aj.av,dw,fq]);refine⟨vE x,jE,?_⟩;have fE:∀(L':List aa)(n:Int),k (.aN [iv n,iv 0]) H->cF H.length (B++L') (.aN [iv n,iv 0]) k:=λL' n h=>by
  rw[hB,SC,SC];exact jA hH (Wk.refl _) (by simp[jK,eC]) h
 have oA:∀(L':List aa),(B++L')[B.length+1]?=L'[1]?:=λL'=>aY B L' 1;have wI:∀(L':List aa),(B++L')[mp]?=some (.obj (.map (D.aK.zipIdx.map ey).toArray D.aK.length)):=λL'=>fO hg;have cQ:(D.l mp).drop 1=.mp mp::((D.l mp).drop 2):=rfl;have aI:=hk D ow;cases hh:D.has with
 |false=>
  have hE:eY D=11:=by rw[eY,hh];rfl
  rw[hh]at aI;refine ai ?_;simp only[seval,hE,show ((11:Int)==11)=true from rfl];refine aD ?_;refine ak ?_;refine bc ?_;exact fE _ 0 aI
 |true=>
  have hE:eY D=0:=by rw[eY,hh];rfl
  rw[hh]at aI;refine ai ?_;simp only[seval,hE,show ((0:Int)==11)=false from rfl];refine aD ?_;refine aO ?_;refine ai ?_;simp only[seval,oA,cQ,wI];have aV:(D.aK.zipIdx.map ey).toArray.size=D.aK.length:=by simp
  rw[aeY _ _ _ _ _ F.Pa (wI _),aV];refine bc ?_;exact fE _ _ aI
end
namespace Tk
def vM (some other:Bool):Int:=if some&&other then 3 else if some then 1 else 2
end Tk
open Go.Conc Go.Proofs Go.Gg.Tk
section
variable {lv:Bool}{H:List aa}{k kp:AV->List aa->Prop}
theorem ai6{D:Kn}{mp s q:Nat}(hD:bL D)(hs:s<3)(hq:q<4)(hk:k (iv (vM ((D.aU.getD s 0).testBit q) (D.aU.getD s 0!=2^q))) H):bf lv SA 60 H [.agg (D.l mp),.da 97 (.agg [iv s,iv q])] k kp:=by
 refine bI (rs:=[.tmp 4]) (nt:=65) Tryz.f60 λhH hA=> ?_;simp only[bt,SY];have fq:=Kn.len hD mp;obtain⟨u,hu⟩:=bZ (xs:=D.aU) (i:=s) (by rw[hD.aU];exact hs);have lP:D.aU.getD s 0=u:=by rw[SE,hu];rfl
 rw[lP]at hk;have lu:=hD.lT _ (S_ hu);have b3:(0<=(s:Int)/\(s:Int)<3)=True:=by simp;omega
 have aX:∀(L:List aa),(H++L)[H.length]?=L[0]?:=λL=>aY H L 0;have cQ:∀(L:List aa),(H++L)[H.length+1]?=L[1]?:=λL=>aY H L 1;have Df:=Kn.En hD (mp:=mp) hu;refine ak ?_;refine ak ?_;refine ak ?_;refine ai ?_;simp only[seval,F.amx];refine aD ?_;refine ai ?_;simp only[seval,F.abc];refine aD ?_;refine ak ?_;refine ek 18 ?_;simp only[seval,aX,cQ,b3,Df];refine gR (bv (u.testBit q)) (di (x8 lu ⟨rfl,rfl⟩)) ?_;refine gR (wv (2^q)) (di (uA (m:=0) (by decide) (show q<16 by omega) ⟨by rw[Nat.zero_or],rfl⟩)) ?_;have aF:((u:Int)!=((2^q:Nat):Int))=(u !=2^q):=by
  rw[U3,bne_iff_ne,bne_iff_ne];exact not_congr Int.ofNat_inj
 rw[show wv u=AV.val (.int .u16 (u:Int))from rfl,show wv (2^q)=AV.val (.int .u16 ((2^q:Nat):Int))from rfl,Pk,aF];have fin:∀(L:List aa)(n:Int),vM (u.testBit q) (u !=2^q)=n->cF H.length (H++L) (iv n) k:=λL n h=>by rw[h]at hk;exact lB hH hk
 generalize u.testBit q=s1 at fin⊢;generalize(u !=2^q)=s2 at fin⊢;cases s1<;>cases s2
 all_goals
  refine ak ?_;refine bY ?_;refine bY ?_;refine bY ?_;refine ak ?_;refine aD ?_
 ·refine aO ?_;refine ak ?_;refine aD ?_;refine bU ?_;refine ak ?_;refine ak ?_;refine bU ?_;refine ak ?_;refine bc ?_;exact fin _ 2 rfl
 ·refine aO ?_;refine ak ?_;refine aD ?_;refine bU ?_;refine ak ?_;refine ak ?_;refine bU ?_;refine ak ?_;refine bc ?_;exact fin _ 2 rfl
 ·refine aO ?_;refine ak ?_;refine aD ?_;refine aO ?_;refine bU ?_;refine ak ?_;refine bU ?_;refine ak ?_;refine bc ?_;exact fin _ 1 rfl
 ·refine bU ?_;refine ak ?_;refine ak ?_;refine ak ?_;refine bU ?_;refine ak ?_;refine bc ?_;exact fin _ 3 rfl
theorem apf{x:aj}{q:Nat}(hq:q<x.pieces.length):zg x [(q:Int)]=true:=by
 unfold zg;simp;omega
theorem ai5{x:aj}{s q ir ip is:Nat}(hx:x.Ok)(hs:s<x.aA.length)(hq:q<x.pieces.length)(hr:H[ir]?=some (.cells x.l 26))(h1:H[ip]?=some (.cells [iv q] 3))(h2:H[is]?=some (.cells [iv s] 3))(hk:k (bv true) H):bf lv SA 57 H [.op ir 0,.op ip 0,.op is 0] k kp:=by
 refine bI (rs:=[.tmp 3]) (nt:=18) Tryz.f57 λhH hA=> ?_;simp only[bt,SY];have bP:x.l=[iv x.first,iv x.hours,iv x.am,cY x.seen,aL x.pieces,aL x.aA]:=rfl;have dw:x.l.length=6:=rfl;have fx:TS 6 x.l=x.l:=rfl;have aR:=hx.de;have aX:∀(L:List aa),(H++L)[H.length]?=L[0]?:=λL=>aY H L 0;have cQ:∀(L:List aa),(H++L)[H.length+1]?=L[1]?:=λL=>aY H L 1;have aq:=apf hq;have hw:SD.wrap ((x.aA.length:Int)-1)=(x.aA.length:Int)-1:=bw _ (by omega);have cK:(decide ((s:Int)<0)||decide ((s:Int)>(x.aA.length:Int)-1))=false:=by simp;omega
 refine ak ?_;refine ai ?_;simp only[seval,z1,hr,h1,dw,fx];(try refine⟨by decide,?_⟩);refine aJ ((J9 (x:=x) (ns:=[(q:Int)]) (e:=.exact) ?_));(try simp only[seval]);refine aJ ((Kd (x:=x) (ns:=[(q:Int)]) (e:=.exact) hx (by simp) (by rw[cQ];rfl) (by rw[aX];rfl) ?_));(try simp only[seval,aq,fO hr,fO h2,bP,aL,hw]);refine aJ ((sZ ?_));(try simp only[seval,cK]);refine bc ?_;exact lB hH hk
theorem aiU{x:aj}{s q:Nat}(hx:x.Ok)(hs:s<x.aA.length)(hq:q<x.pieces.length)(hm:H[0]?=some .main)(hk:∀D,fM x 2 D->k (.aN [iv (if D.has then vM ((D.aU.getD s 0).testBit q) (D.aU.getD s 0!=2^q)else 0),iv (eY D)]) H):bf true SA 28 H [x.av,iv s,iv q] k kp:=by
 refine bI (rs:=[.tmp 6,.tmp 7]) (nt:=27) Tryz.f28 λhH hA=> ?_;simp only[bt,SY,aj.av];have hp:=hx.am;obtain⟨p,iy⟩:∃p:Nat,x.am=p:=⟨x.am.toNat,by omega⟩;have aX:∀(L:List aa),(H++L)[H.length]?=L[0]?:=λL=>aY H L 0;have cQ:∀(L:List aa),(H++L)[H.length+1]?=L[1]?:=λL=>aY H L 1;have kF:∀(L:List aa),(H++L)[H.length+2]?=L[2]?:=λL=>aY H L 2;have dw:x.l.length=6:=rfl;have fx:TS 6 x.l=x.l:=rfl;refine ak ?_;refine ai ?_;simp only[seval,aX,dw,fx,Ub,UE,Uj,TR];refine aJ ((Ah (x:=x) (b:=true) hx iy (fO hm) (λL k kp hk=>di (ai5 hx hs hq (by rw[SC,aX];rfl) (by rw[SC,kF];rfl) (by rw[SC,cQ];rfl) hk)) (λh=>by cases h) λ_ js D L mp iF jD dZ tG hg=> ?_));have ow:fM x 2 D:=⟨p,js,iy,iF,jD,dZ⟩;have fq:=Kn.len dZ mp;have jE:=vg D mp;obtain⟨Y,hY⟩:∃Y:List aa,Y=[aa.cells x.l 26,.cells [iv s] 3,.cells [iv q] 3]++L:=⟨_,rfl⟩;obtain⟨B,hB⟩:∃B,B=H++Y:=⟨_,rfl⟩;have te:H++[aa.cells x.l 26,.cells [iv s] 3,.cells [iv q] 3]++L=B:=by rw[hB,hY,SC]
 have oA:∀(L':List aa),(B++L')[B.length+1]?=L'[1]?:=λL'=>aY B L' 1;have hbs:∀(L':List aa),(B++L')[H.length+1]?=some (.cells [iv s] 3):=λL'=>by rw[hB,hY,SC,cQ];rfl
 have rE:∀(L':List aa),(B++L')[H.length+2]?=some (.cells [iv q] 3):=λL'=>by rw[hB,hY,SC,kF];rfl
 have aI:=hk D ow;have fE:∀(L':List aa)(n m:Int),k (.aN [iv n,iv m]) H->cF H.length (B++L') (.aN [iv n,iv m]) k:=λL' n m h=>by
  rw[hB,SC];exact jA hH (Wk.refl _) (by simp[jK,eC]) h
 rw[te];clear te hg hB;(try simp only[seval,aj.av,dw,fq]);refine⟨vE x,jE,?_⟩;cases hh:D.has with
 |false=>
  have hE:eY D=11:=by rw[eY,hh];rfl
  rw[hE,hh]at aI;refine ai ?_;simp only[seval,hE,show ((11:Int)!=0)=true from rfl];refine aD ?_;refine ak ?_;refine bc ?_;exact fE _ 0 11 aI
 |true=>
  have hE:eY D=0:=by rw[eY,hh];rfl
  rw[hE,hh]at aI;refine ai ?_;simp only[seval,hE,show ((0:Int)!=0)=false from rfl];refine aD ?_;refine aO ?_;refine ai ?_;simp only[seval,F.abc,oA,hbs,rE,fq];rw[SS (i:=28) (by rw[fq];exact SO _)];refine aJ ((ai6 (s:=s) (q:=q) dZ (by have:=hx.de;omega) (by have:=hx.ec;omega) ?_));(try simp only[seval]);refine bc ?_;exact fE _ _ 0 aI
end
theorem z2:gU (SF .i64 0) 2=[iv 0,iv 0]:=rfl
section
variable {H:List aa}{k kp:AV->List aa->Prop}
end
namespace Tk
structure ii where
 lo:Int
 hi:Int
 is:Bool
def ii.add (b:ii)(v:Int):ii:=if b.is then⟨min b.lo v,max b.hi v,true⟩else⟨v,v,true⟩
end Tk
def Tk.ii.l (b:ii):List AV:=[iv b.lo,iv b.hi,bv b.is]
section
variable {lv:Bool}{H:List aa}{k kp:AV->List aa->Prop}
theorem ajb{b:ii}{v:Int}{i:Nat}(hi:H[i]?=some (.cells b.l 112))(hk:k (.aN []) (H.set i (.cells (b.add v).l 112))):bf lv SA 74 H [.op i 0,iv v] k kp:=by
 refine bI (rs:=[]) (nt:=38) Tryz.f74 λhH hA=> ?_;simp only[bt,SY];have bB:=eN hi;obtain⟨hp,eU⟩:∃hp:List AV->List aa,∀l,hp l=H.set i (.cells l 112):=⟨_,λ_=>rfl⟩;have h0:H=hp b.l:=by rw[eU];exact(qL hi).symm
 have hg:∀l,(hp l)[i]?=some (.cells l 112):=λl=>by rw[eU,UU,if_pos rfl,if_pos bB]
 have hs:∀l l',(hp l).set i (.cells l' 112)=hp l':=λl l'=>by rw[eU,eU,Xb]
 have fin:∀(N:Nat)(l:List AV),l=(b.add v).l->cF N (hp l) (.aN []) k:=λN l e=>by
  rw[e,eU];exact b9 hk
 rw[h0];clear hH hA eU h0 hi hk;refine ai ?_;simp only[seval,hg,ii.l];refine aD ?_;refine⟨λh=> ?_,λh=> ?_⟩
 ·have hb:b.is=false:=by simpa using h
  refine ai ?_;simp(maxSteps:=4000000) only[seval,hg,hs];refine o_ [16,19] (SU 20) (λD=>bif isDone 19 D then hp [iv (min v v),iv (max v v),bv true]else bif isDone 16 D then hp [iv (min v v),iv v,bv true]else hp [iv v,iv v,bv true]) ?_;simp only[seval,hg,hs];have m1:(if v<v then v else v)=v:=by split<;>rfl
  have m2:min v v=v:=by omega
  have m3:max v v=v:=by omega
  rw[m1,m2,m3];exact⟨rfl,rfl,fin _ _ (by rw[ii.add,if_neg (by rw[hb];decide)];rfl)⟩
 ·have hb:b.is=true:=by simpa using h
  refine aO ?_;refine o_ [16,19] (SU 20) (λD=>bif isDone 19 D then hp [iv (min b.lo v),iv (max b.hi v),bv b.is]else bif isDone 16 D then hp [iv (min b.lo v),iv b.hi,bv b.is]else hp [iv b.lo,iv b.hi,bv b.is]) ?_;simp only[seval,hg,hs];have m1:(if v<b.lo then v else b.lo)=min b.lo v:=by split<;>omega
  have m2:(if b.hi<v then v else b.hi)=max b.hi v:=by split<;>omega
  rw[m1,m2];exact⟨rfl,rfl,fin _ _ (by rw[ii.add,if_pos hb,hb];rfl)⟩
end
open Go.Conc Go.Proofs Go.Gg.Tk
namespace Tk
def v9 (hour:Nat)(hs:List (List Int)):ii:=hs.foldl (λb h=>b.add (h.getD hour 0)) ⟨0,0,false⟩
end Tk
section
variable {lv:Bool}{H:List aa}{k kp:AV->List aa->Prop}
theorem aja{x:aj}{hour:Nat}{ih ir:Nat}(hh:(hour:Int)<=x.hours)(h1:H[ih]?=some (.cells [iv hour] 3))(hr:H[ir]?=some (.cells x.l 26))(hk:k (bv true) H):bf lv SA 73 H [.op ih 0,.op ir 0] k kp:=by
 refine bI (rs:=[.tmp 2]) (nt:=8) Tryz.f73 λhH hA=> ?_;simp only[bt,SY];have bP:x.l=[iv x.first,iv x.hours,iv x.am,cY x.seen,aL x.pieces,aL x.aA]:=rfl;have cK:(decide ((hour:Int)<0)||decide ((hour:Int)>x.hours))=false:=by simp;omega
 refine ak ?_;refine ai ?_;simp only[seval,h1,hr,bP];refine aJ ((sZ ?_));(try simp only[seval,cK]);refine bc ?_;exact b9 hk
theorem aiY{x:aj}{hour:Nat}(hx:x.Ok)(hh:(hour:Int)<=x.hours)(hm:H[0]?=some .main)(hk:∀D,fM x 0 D->(D.has=false->k (.aN [.agg [iv 0,iv 0],iv 11]) H)/\(D.has=true->∀hs:List (List Int),hs.Perm D.aK->k (.aN [.agg [iv (v9 hour hs).lo,iv (v9 hour hs).hi],iv 0]) H)):bf true SA 36 H [x.av,iv hour] k kp:=by
 refine bI (rs:=[.cell 4 46,.tmp 5]) (nt:=41) Tryz.f36 λhH hA=> ?_;simp only[bt,SY,aj.av];have hp:=hx.am;have Dm:=hx.hours;obtain⟨p,iy⟩:∃p:Nat,x.am=p:=⟨x.am.toNat,by omega⟩;have aX:∀(L:List aa),(H++L)[H.length]?=L[0]?:=λL=>aY H L 0;have cQ:∀(L:List aa),(H++L)[H.length+1]?=L[1]?:=λL=>aY H L 1;have kF:∀(L:List aa),(H++L)[H.length+2]?=L[2]?:=λL=>aY H L 2;have fX:∀(L:List aa)(y:aa),(H++L).set (H.length+2) y=H++L.set 2 y:=λL y=>dJ H L 2 y;have dw:x.l.length=6:=rfl;have fx:TS 6 x.l=x.l:=rfl;refine ak ?_;refine ai ?_;simp only[seval,aX,dw,fx,Ub,UE,Uj,TR];refine aJ ((Ah (x:=x) (b:=true) hx iy (fO hm) (λL k kp hk=>di (aja hh (by rw[SC,cQ];rfl) (by rw[SC,aX];rfl) hk)) (λh=>by cases h) λ_ js D L mp iF jD dZ tG hg=> ?_));have ow:fM x 0 D:=⟨p,js,iy,iF,jD,dZ⟩;have fq:=Kn.len dZ mp;have jE:=vg D mp;obtain⟨iG,cH⟩:=hk D ow;obtain⟨Bf,oq⟩:∃Bf:List AV->List aa,∀l,Bf l=H++([aa.cells x.l 26,.cells [iv hour] 3,.cells l 46]++L):=⟨_,λ_=>rfl⟩;have te:H++[aa.cells x.l 26,.cells [iv hour] 3,.cells [iv 0,iv 0] 46]++L=Bf [iv 0,iv 0]:=by rw[oq,SC]
 obtain⟨N,hN⟩:∃N,N=H.length+3+L.length:=⟨_,rfl⟩;have fP:∀l,(Bf l).length=N:=λl=>by rw[oq,hN];simp;omega
 have b1:∀l (L':List aa),(Bf l++L')[H.length+1]?=some (.cells [iv hour] 3):=λl L'=>by rw[oq,SC,cQ];rfl
 have b2:∀l (L':List aa),(Bf l++L')[H.length+2]?=some (.cells l 46):=λl L'=>by rw[oq,SC,kF];rfl
 have ut:∀l l' (L':List aa),(Bf l++L').set (H.length+2) (.cells l' 46)=Bf l'++L':=λl l' L'=>by rw[oq,SC,fX,oq];simp
 have bn:∀l (L':List aa)(j:Nat),(Bf l++L')[N+j]?=L'[j]?:=λl L' j=>by rw[<- fP l,aY]
 have v_:∀l (L':List aa)(j:Nat)(y:aa),(Bf l++L').set (N+j) y=Bf l++L'.set j y:=λl L' j y=>by rw[<- fP l,dJ]
 rw[te]at hg⊢;have fE:∀(l:List AV)(L':List aa)(a b:Int)(m:Int),k (.aN [.agg [iv a,iv b],iv m]) H->cF H.length (Bf l++L') (.aN [.agg [iv a,iv b],iv m]) k:=λl L' a b m h=>by
  rw[oq,SC];exact jA hH (Wk.refl _) (by simp[jK,eC,sf]) h
 (try simp only[seval,aj.av,dw,fq,fP]);refine⟨vE x,jE,?_⟩;cases iT:D.has with
 |false=>
  have hE:eY D=11:=by rw[eY,iT];rfl
  refine ai ?_;simp only[seval,hE,show ((11:Int)!=0)=true from rfl];refine aD ?_;refine ai ?_;simp only[seval,b2,ut];refine oe ?_;simp only[seval,b2];exact fE _ _ 0 0 11 (iG iT)
 |true=>
  have hE:eY D=0:=by rw[eY,iT];rfl
  refine ai ?_;simp only[seval,hE,show ((0:Int)!=0)=false from rfl];refine aD ?_;refine aO ?_;refine ai ?_;simp only[seval,fP];refine ai ?_;simp only[seval,Ub,UE,Uj,TR];have po:(D.l mp).drop 1=.mp mp::((D.l mp).drop 2):=rfl;obtain⟨ts,cR⟩:∃ts,ts=D.aK.zipIdx:=⟨_,rfl⟩;obtain⟨ck,Gm⟩:∃ck,ck=D.aK.length:=⟨_,rfl⟩;have wI:∀l (L':List aa),(Bf l++L')[mp]?=some (.obj (.map (ts.map ey).toArray ck)):=λl L'=>by
   have h0:(Bf [iv 0,iv 0])[mp]?=some (setH D.aK):=hg;have aF:mp≠H.length+2:=λe=>by
    have:=b2 [iv 0,iv 0] [];rw[SN,<- e,h0]at this;cases this
   have h1:(Bf l)[mp]?=some (setH D.aK):=by
    have:=ut [iv 0,iv 0] l [];rw[SN,SN]at this;rw[<- this,Ua (λe=>aF e.symm)];exact h0
   rw[cR,Gm];exact fO h1
  have qj:∀y∈ts,y.2<ck:=λy hy=>by rw[cR]at hy;have:=List.snd_lt_add_of_mem_zipIdx hy;omega
  have Ds:(ts.map (·.2)).Nodup:=by rw[cR,show (λy:List Int×Nat=>y.2)=Prod.snd from rfl,List.zipIdx_map_snd];exact List.nodup_range'
  have h4:∀y∈ts,y.1.length=4:=λy hy=>by rw[cR]at hy;exact dZ.h4 _ (EQ hy)
  have fD:=P3 ts ck qj;have Mw:ts.map (·.1)=D.aK:=by rw[cR,show (λy:List Int×Nat=>y.1)=Prod.fst from rfl,List.zipIdx_map_fst]
  clear cR;refine ai ?_;simp only[seval,fP,bn,po,wI];obtain⟨jX,eU⟩:∃jX:ii->Array Nat->List aa,∀b sn,jX b sn=Bf [iv 0,iv 0]++[.cells x.l 76,.cells (D.l mp) 88,.cells b.l 112,.iter mp ck sn ck]:=⟨_,λ_ _=>rfl⟩;have p1:∀b sn (L':List aa),(jX b sn++L')[H.length+1]?=some (.cells [iv hour] 3):=λb sn L'=>by rw[eU,SC];exact b1 _ _
  have p2:∀b sn (L':List aa),(jX b sn++L')[N+2]?=some (.cells b.l 112):=λb sn L'=>by rw[eU,SC,bn];rfl
  have p3:∀b sn (L':List aa),(jX b sn++L')[N+3]?=some (.iter mp ck sn ck):=λb sn L'=>by rw[eU,SC,bn];rfl
  have p3':∀b sn,(jX b sn)[N+3]?=some (.iter mp ck sn ck):=λb sn=>by have:=p3 b sn [];rwa [SN]at this
  have p4:∀b sn (L':List aa),(jX b sn++L')[N+4]?=L'[0]?:=λb sn L'=>by rw[eU,SC,bn];rfl
  have pm:∀b sn (L':List aa),(jX b sn++L')[mp]?=some (.obj (.map (ts.map ey).toArray ck)):=λb sn L'=>by rw[eU,SC];exact wI _ _
  have NO:∀b sn,(jX b sn)[mp]?=some (.obj (.map (ts.map ey).toArray ck)):=λb sn=>by have:=pm b sn [];rwa [SN]at this
  have s2:∀b sn b' (L':List aa),(jX b sn++L').set (N+2) (.cells (ii.l b') 112)=jX b' sn++L':=λb sn b' L'=>by rw[eU,SC,v_,eU,SC];rfl
  have s3:∀b sn Om,(jX b sn).set (N+3) (.iter mp ck Om ck)=jX b Om:=λb sn Om=>by rw[eU,v_,eU];rfl
  have pl:∀b sn,(jX b sn).length=N+4:=λb sn=>by rw[eU];simp[fP]
  have aR:Bf [AV.val (SF SD 0),AV.val (SF SD 0)]++[.cells x.l 76,.cells (D.l mp) 88,.cells [AV.val (SF SD 0),AV.val (SF SD 0),AV.val (Xf false)] 112,.iter mp ck #[] ck]=jX ⟨0,0,false⟩ #[]:=by rw[eU];rfl
  rw[aR];have pu:hour<4:=by omega
  have b4:(0<=(hour:Int)/\(hour:Int)<4)=True:=by simp;omega
  have s46:∀b sn l,(jX b sn).set (H.length+2) (.cells l 46)=Bf l++[.cells x.l 76,.cells (D.l mp) 88,.cells b.l 112,.iter mp ck sn ck]:=λb sn l=>by rw[eU,ut]
  have p46:∀b sn,(jX b sn)[H.length+2]?=some (.cells [iv 0,iv 0] 46):=λb sn=>by rw[eU,b2]
  have p2':∀b sn,(jX b sn)[N+2]?=some (.cells (ii.l b) 112):=λb sn=>by have:=p2 b sn [];rwa [SN]at this
  refine bY ?_;refine zU (measure λvs:List (List Int×Nat)=>ts.length-vs.length).wf (λvs=>[]) (λvs=>jX (v9 hour (vs.map (·.1))) (vs.map (·.2)).toArray) (λvs=>(vs.map (·.2)).Nodup/\∀y∈vs,y∈ts) [] (λ_ _=>rfl) (by simp) rfl (λ_ _=>by simp[pl]) ⟨by simp,by simp⟩ (λbJ cm vs aq R hR=> ?_);refine ai ?_;simp only[seval,p3',NO,s3];refine⟨fD.elim .inl (λh=> .inr (.inl h)),λe he hn=> ?_,λhs=> ?_⟩
  ·obtain⟨y,hy,rfl⟩:∃y∈ts,ey y=e:=(by simpa using he);refine aD ?_;refine aO ?_;refine bY ?_;have td:=h4 y hy;have K5:(ey y).born=y.2:=rfl;have hlen:(y.1.map iv).length=4:=(by simp[td]);have Ld:TH 4 [AV.val (SF SD 0),AV.val (SF SD 0),AV.val (SF SD 0),AV.val (SF SD 0)]=[]:=rfl;obtain⟨w,hw⟩:=bZ (xs:=y.1) (i:=hour) (by omega);have My:y.1.getD hour 0=w:=(by rw[SE,hw];rfl);have MD:y.2∉vs.map (·.2):=(by simpa[ey]using hn);have GN:((vs.map (·.2)).toArray.push y.2)=((vs++[y]).map (·.2)).toArray:=(by simp);have akB:(v9 hour (vs.map (·.1))).add w=v9 hour ((vs++[y]).map (·.1)):=by
    unfold v9;rw[TG,ZS];show _=ii.add _ (y.1.getD hour 0);rw[My]
   have tI:((vs++[y]).map (·.2)).Nodup/\∀z∈vs++[y],z∈ts:=by
    refine⟨?_,λz hz=> ?_⟩
    ·rw[TG,Vb];refine⟨aq.1,by simp,λa ha b hb=> ?_⟩;simp at hb;subst hb;intro e;subst e;exact MD ha
    ·rcases SQ.1 hz with h|h
     ·exact aq.2 z h
     ·rw[S8.1 h];exact hy
   have aut:vs.length<ts.length:=by
    have h1:(vs++[y]).Nodup:=Ee _ tI.1;have:=h1.length_le_of_subset tI.2;simp at this;omega
   have rS:ts.length-(vs++[y]).length<ts.length-vs.length:=(by simp;omega);have GI:∀b sn,bH (jX b sn):=λb sn z hz=>by
    have R3:bH (jX ⟨0,0,false⟩ #[]):=bJ;rw[pl];rw[eU]at hz;have cK:∀z,z∈jX ⟨0,0,false⟩ #[]->eQ (N+4) z:=λz hz=>by
     have:=R3 z hz;rwa [pl]at this
    rcases SQ.1 hz with h|h
    ·exact cK z (by rw[eU];exact Th _ h)
    ·simp only[SK,SZ,or_false]at h;rcases h with rfl|rfl|rfl|rfl
     ·exact cK _ (by rw[eU];simp)
     ·exact cK _ (by rw[eU];simp)
     ·intro a ha;simp only[ii.l,SK,SZ,or_false]at ha;rcases ha with rfl|rfl|rfl<;>exact .val _
     ·show mp<N+4;have:=eN (NO ⟨0,0,false⟩ #[]);rwa [pl]at this
   refine ai ?_;simp only[seval,p3',NO,s3,pl,p4,K5,Array.back?_push,Rh Ds hy,ach,td,hlen,Ld];refine ai ?_;simp only[seval,p1,p4,b4,kT hw];refine aJ ((ajb (b:=v9 hour (vs.map (·.1))) (v:=w) (i:=N+2) (p2 _ _ _) ?_));rw[s2,akB,GN];(try simp only[seval]);refine hR _ ⟨vs++[y],rS,tI,?_⟩;exact acR (pL rfl rfl) (by simp only[seval]<;>simp[bm,Wk.refl]) (GI _ _) (by simp[eC])
  ·have me:vs.Perm ts:=ac2 aq.1 Ds aq.2 λy hy=>by
    have:=hs (ey y) (by simp;exact⟨y.1,y.2,hy,rfl⟩) (qj y hy);simpa[ey]using this
   have Md:(vs.map (·.1)).Perm D.aK:=by
    have:=me.map (·.1);rw[Mw]at this;exact this
   have aI:=cH iT _ Md;generalize AD:v9 hour (vs.map (·.1))=bv' at aI;refine aD ?_;refine bU ?_;refine ai ?_;simp only[seval,p2',p46,s46,ii.l,AD];refine oe ?_;simp only[seval,b2];exact fE _ _ _ _ 0 aI
end
open Go.Conc Go.Proofs Go.Gg.Tk
namespace Tk
end Tk
section
variable {lv:Bool}{H:List aa}{k kp:AV->List aa->Prop}
end
open Go.Conc Go.Proofs Go.Gg.Tk
namespace Tk
def Bb (out n:Int):Int:=if 0<=n/\(out<0\/n<out)then n else out
def yT (l:List Int):Int:=l.foldl Bb (-1)
def uB (aU:List Nat)(i:Nat):List Int:=(SU i).flatMap λs=>if 1<(fG (aU.getD s 0) 0 16).length then[-1]else fG (aU.getD s 0) 0 16
theorem RI(aU:List Nat)(i:Nat):uB aU (i+1)=uB aU i++(if 1<(fG (aU.getD i 0) 0 16).length then[-1]else fG (aU.getD i 0) 0 16):=by
 unfold uB;rw[Vp,VE];simp
theorem RH(aU:List Nat):∀i,(uB aU i).length<=i
 |0=>by simp[uB]
 |i+1=>by
  have:=RH aU i;rw[RI,S5];split
  ·simp;omega
  ·omega
end Tk
theorem Iz{a a' b b':AV}(h1:Wk a a')(h2:Wk b b'):Wk (.aN [a,b]) (.aN [a',b']):=λE v h=>by
 cases h with
 |aN hs h=>
  refine .aN hs λi x e=> ?_
  match i with
  |0=>cases e;exact h1 _ _ (h 0 a rfl)
  |1=>cases e;exact h2 _ _ (h 1 b rfl)
open Go.Conc Go.Proofs Go.Gg.Tk
section
variable {lv:Bool}{H:List aa}{k kp:AV->List aa->Prop}
theorem aiS{x:aj}(hx:x.Ok)(hm:H[0]?=some .main)(hk:∀D,fM x 2 D->(D.has=false->k (.aN [br [],iv 11]) H)/\(D.has=true->k (.aN [br (uB D.aU x.aA.length),iv 0]) H)):bf true SA 26 H [x.av] k kp:=by
 refine bI (rs:=[.tmp 2,.tmp 3]) (nt:=39) Tryz.f26 λhH hA=> ?_;simp only[bt,SY,aj.av];have hp:=hx.am;have aR:=hx.de;obtain⟨p,iy⟩:∃p:Nat,x.am=p:=⟨x.am.toNat,by omega⟩;have bP:x.l=[iv x.first,iv x.hours,iv x.am,cY x.seen,aL x.pieces,aL x.aA]:=rfl;have aX:∀(L:List aa),(H++L)[H.length]?=L[0]?:=λL=>aY H L 0;have dw:x.l.length=6:=rfl;have fx:TS 6 x.l=x.l:=rfl;refine ak ?_;refine ai ?_;simp only[seval,aX,dw,fx];refine aJ ((Ah (x:=x) hx iy (fO hm) Jc (λh=>by cases h) λ_ js D L mp iF jD dZ tG hg=> ?_));have ow:fM x 2 D:=⟨p,js,iy,iF,jD,dZ⟩;have fq:=Kn.len dZ mp;have jE:=vg D mp;obtain⟨iG,cH⟩:=hk D ow;obtain⟨Y,hY⟩:∃Y:List aa,Y=[aa.cells x.l 26]++L:=⟨_,rfl⟩;obtain⟨B,hB⟩:∃B,B=H++Y:=⟨_,rfl⟩;have te:H++[aa.cells x.l 26]++L=B:=by rw[hB,hY,SC]
 have AC:∀(L':List aa),(B++L')[H.length]?=some (.cells x.l 26):=λL'=>by rw[hB,hY,SC,aX];rfl
 have bn:∀(L':List aa)(j:Nat),(B++L')[B.length+j]?=L'[j]?:=λL' j=>aY B L' j;have v_:∀(L':List aa)(j:Nat)(y:aa),(B++L').set (B.length+j) y=B++L'.set j y:=λL' j y=>dJ B L' j y;have fE:∀(L':List aa)(ns:List Int)(e:End)(m:Int),k (.aN [br ns,iv m]) H->cF H.length (B++L') (.aN [.sl ns.length (ns.map iv) e,iv m]) k:=λL' ns e m h=>by
  rw[hB,SC];exact jA hH (Iz (jq _ _ _) (Wk.refl _)) (by simp[jK,eC,br,vt]) h
 rw[te];clear te hg;(try simp only[seval,aj.av,dw,fq]);refine⟨vE x,jE,?_⟩;cases iT:D.has with
 |false=>
  have hE:eY D=11:=by rw[eY,iT];rfl
  refine ai ?_;simp only[seval,hE,show ((11:Int)!=0)=true from rfl];refine aD ?_;refine ak ?_;refine bc ?_;exact fE _ [] .exact 11 (iG iT)
 |true=>
  have hE:eY D=0:=by rw[eY,iT];rfl
  refine ai ?_;simp only[seval,hE,show ((0:Int)!=0)=false from rfl];refine aD ?_;refine aO ?_;refine ak ?_
  (repeat apply im);refine v5 (t:=7) (sz:=1) (el:=3) (by simp only[seval]<;>rfl) ?_
  have mI:TH 5 x.l=[.sl x.aA.length (x.aA.flatMap aB.l) .shut]:=rfl;refine ai ?_;simp only[seval,AC,mI];have Cx:∀(L':List aa),(B++L')[B.length+1]?=L'[1]?:=λL'=>bn L' 1;have zX:∀(L':List aa),(B++L')[B.length+2]?=L'[2]?:=λL'=>bn L' 2;have ut:∀(L':List aa)(y:aa),(B++L').set (B.length+2) y=B++L'.set 2 y:=λL' y=>v_ L' 2 y;obtain⟨gl,ki⟩:∃gl:Nat->List Int,∀i,gl i=uB D.aU i:=⟨_,λ_=>rfl⟩;have Dj:gl 0=[]:=by rw[ki];rfl
  have Lx:∀i,(gl i).length<=i:=λi=>by rw[ki];exact RH _ _
  refine bY ?_;refine gF x.aA.length (λi:Nat=>[(7,.sl (gl i).length ((gl i).map iv) (.opn (B.length+2))),(22,iv i)]) (λi=>B++[.cells x.l 76,.cells (D.l mp) 88,.tail (gl i).length 1 3]) (λi=>True) (λ_ _=>rfl) (by rw[Dj];simp only[seval];simp[bm,Wk.refl]) (by rw[Dj];rfl) (λ_ _ _=>by simp) trivial (λbJ cm i cK _ R hR=> ?_);refine ak ?_;refine aD ?_;refine⟨λh=> ?_,λh=> ?_⟩
  ·have bB:i<x.aA.length:=(by omega);obtain⟨u,hu⟩:=bZ (xs:=D.aU) (i:=i) (by rw[dZ.aU];omega);have lu:=dZ.lT _ (S_ hu);have b3:(0<=(i:Int)/\(i:Int)<3)=True:=(by simp;omega);have fS:SD.wrap ((i:Int)+1)=((i+1:Nat):Int):=(by rw[bw _ (by omega)];rfl);have Df:=Kn.En dZ (mp:=mp) hu;have dc:gl (i+1)=gl i++(if 1<(fG u 0 16).length then[-1]else fG u 0 16):=by
    rw[ki,ki,RI,SE,hu];rfl
   have hli:=Lx i;have iu:=Nh u 0 16;refine aO ?_;refine ak ?_;refine ai ?_;simp only[seval,Cx,b3,Df];refine aJ ((J8 lu (by decide) ?_));(try simp only[seval,br]);refine ak ?_;refine aD ?_;refine⟨λhb=> ?_,λhb=> ?_⟩
   ·refine ai ?_;simp only[seval,z1];(try refine⟨by decide,?_⟩);refine ai ?_;simp only[seval,zX,ut];refine⟨by omega,?_⟩;refine ai ?_;simp only[seval,fS];have oA:1<(fG u 0 16).length:=(by have h2:(1:Int)<((fG u 0 16).length:Int):=(by simpa using hb);omega);rw[if_pos oA]at dc;refine hR _ ⟨bB,trivial,?_⟩;rw[dc,TG,S5];exact cT
   ·refine aO ?_;refine ai ?_;simp only[seval,zX,ut];refine⟨by omega,?_⟩;refine ai ?_;simp only[seval,fS];have oA:¬1<(fG u 0 16).length:=(by have h2:((fG u 0 16).length:Int)<=1:=(by simpa using hb);omega);rw[if_neg oA]at dc;refine hR _ ⟨bB,trivial,?_⟩;rw[dc,TG,S5];exact cT
  ·have dD:i=x.aA.length:=(by omega);subst dD;refine bU ?_;refine ak ?_;refine bc ?_;have aI:=cH iT;rw[<- ki]at aI;exact fE _ _ _ 0 aI
theorem ai7{ns:List Int}{e:End}(gK:ns.length<=16)(hk:k (iv (yT ns)) H):bf lv SA 69 H [.sl ns.length (ns.map iv) e] k kp:=by
 refine bI (rs:=[.tmp 2]) (nt:=26) Tryz.f69 λhH hA=> ?_;simp only[bt,SY];refine ak ?_;refine ak ?_;refine ak ?_;refine bY ?_;refine gF ns.length (λi:Nat=>[(3,iv (yT (ns.take i))),(8,iv i)]) (λ_=>_) (λi=>True) (λ_ _=>rfl) (by simp only[seval];simp[bm,Wk.refl];exact Wk.refl _) rfl (λ_ _ _=>rfl) trivial (λbJ cm i cK _ R hR=> ?_);refine ak ?_;refine aD ?_;refine⟨λh=> ?_,λh=> ?_⟩
 ·have bB:i<ns.length:=by omega
  obtain⟨n,hn⟩:=bZ bB;have fS:SD.wrap ((i:Int)+1)=((i+1:Nat):Int):=by rw[bw _ (by omega)];rfl
  have dc:yT (ns.take (i+1))=Bb (yT (ns.take i)) n:=by
   unfold yT;rw[UZ,hn,ZS];rfl
  generalize yT (ns.take i)=o at dc hR⊢;refine aO ?_;refine ai ?_;simp only[seval,ff hn,jR bB];by_cases c1:0<=n
  ·have d1:decide (n>=0)=true:=decide_eq_true c1;by_cases c2:o<0
   ·have d2:decide (o<0)=true:=decide_eq_true c2;refine ai ?_;simp only[seval,d1,d2];refine aD ?_;refine ak ?_;refine ai ?_;simp only[seval,fS];rw[Bb,if_pos ⟨c1,.inl c2⟩]at dc;refine hR _ ⟨bB,trivial,?_⟩;rw[dc];exact cT
   ·have d2:decide (o<0)=false:=decide_eq_false c2;by_cases c3:n<o
    ·have d3:decide (n<o)=true:=decide_eq_true c3;refine ai ?_;simp only[seval,d1,d2,d3];refine aD ?_;refine ak ?_;refine ai ?_;simp only[seval,fS];rw[Bb,if_pos ⟨c1,.inr c3⟩]at dc;refine hR _ ⟨bB,trivial,?_⟩;rw[dc];exact cT
    ·have d3:decide (n<o)=false:=decide_eq_false c3;refine ai ?_;simp only[seval,d1,d2,d3];refine aD ?_;refine aO ?_;refine ai ?_;simp only[seval,fS];rw[Bb,if_neg (λhc=>hc.2.elim c2 c3)]at dc;refine hR _ ⟨bB,trivial,?_⟩;rw[dc];exact cT
  ·have d1:decide (n>=0)=false:=decide_eq_false c1;(repeat apply im);refine agi (by kernel_rfl) ?_;simp only[seval,d1];refine aD ?_;refine aO ?_;refine ai ?_;simp only[seval,fS];rw[Bb,if_neg (λhc=>c1 hc.1)]at dc;refine hR _ ⟨bB,trivial,?_⟩;rw[dc];exact cT
 ·have:i=ns.length:=by omega
  subst this;refine bU ?_;refine ak ?_;refine bc ?_;rw[TD];exact b9 hk
end
namespace Tk
def aB.more (y:aB)(n:Int):aB:=⟨⟨y.number.min+n,y.number.max+n⟩,y.hour⟩
def lW (h:List Int)(n:Int):Nat->Int
 |0=> -1
 |i+1=>if h.getD i 0<=n/\n<h.getD (i+1) 0 then i else lW h n i
end Tk
section
variable {lv:Bool}{H:List aa}{k kp:AV->List aa->Prop}
theorem FR{a b:Int}(hk:k (.agg [iv a,iv b]) H):bf lv SA 24 H [iv a,iv b] k kp:=by
 refine bI (rs:=[.cell 4 46]) (nt:=8) Tryz.f24 λhH hA=> ?_;simp only[bt,SY];refine ak ?_;refine ak ?_;refine bc ?_;exact jA hH (Wk.refl _) (by simp[sf,eC]) hk
theorem Q_{a b c:Int}(hk:k (Seen.av ⟨a,⟨b,c⟩⟩) H):bf lv SA 78 H [iv a,iv b,iv c] k kp:=by
 refine bI (rs:=[.cell 6 61]) (nt:=12) Tryz.f78 λhH hA=> ?_;simp only[bt,SY];refine ak ?_;refine ak ?_;refine bc ?_;exact jA hH (Wk.refl _) (by simp[sf,eC]) hk
theorem rq{a b c d:Int}(hk:k (aB.av ⟨⟨a,b⟩,⟨c,d⟩⟩) H):bf lv SA 79 H [iv a,iv b,iv c,iv d] k kp:=by
 refine bI (rs:=[.cell 8 48]) (nt:=16) Tryz.f79 λhH hA=> ?_;simp only[bt,SY];refine ak ?_;refine ak ?_;refine bc ?_;exact jA hH (Wk.refl _) (by simp[sf,eC]) hk
theorem aiZ{h:List Int}{n:Int}{e:End}(hl:h.length<=4)(hk:k (iv (lW h n (h.length-1))) H):bf lv SA 40 H [.sl h.length (h.map iv) e,iv n] k kp:=by
 refine bI (rs:=[.tmp 4]) (nt:=31) Tryz.f40 λhH hA=> ?_;simp only[bt,SY];refine ak ?_;refine ak ?_;refine ak ?_;refine bY ?_;refine gF (h.length-1) (λi:Nat=>[(5,iv (lW h n i)),(6,iv i)]) (λ_=>_) (λi=>True) (λ_ _=>rfl) (by simp only[seval];simp[bm,Wk.refl];exact Wk.refl _) rfl (λ_ _ _=>rfl) trivial (λbJ cm i cK _ R hR=> ?_);have fS:SD.wrap ((i:Int)+1)=((i+1:Nat):Int):=by rw[bw _ (by omega)];rfl
 refine ai ?_;simp only[seval,fS];refine aD ?_;refine⟨λhc=> ?_,λhc=> ?_⟩
 ·have bB:i+1<h.length:=by omega
  obtain⟨a,ha⟩:=bZ (xs:=h) (i:=i) (by omega);obtain⟨b,hb⟩:=bZ (xs:=h) (i:=i+1) bB;have gq:h.getD i 0=a:=by rw[SE,ha];rfl
  have dI:h.getD (i+1) 0=b:=by rw[SE,hb];rfl
  have fQ:=jR (show i<h.length by omega);have pj:(0<=(i:Int)+1/\(i:Int)+1<(h.length:Int))=True:=by simp;omega
  have lO:((i:Int)+1).toNat=i+1:=by omega
  have dc:lW h n (i+1)=if a<=n/\n<b then(i:Int)else lW h n i:=by rw[lW,gq,dI]
  refine aO ?_;refine bY ?_;by_cases c1:a<=n
  ·have d1:decide (a<=n)=true:=decide_eq_true c1;by_cases c2:n<b
   ·have d2:decide (n<b)=true:=decide_eq_true c2;refine ai ?_;simp only[seval,ff ha,ff hb,fQ,pj,lO,d1,d2,fS];refine aD ?_;refine ak ?_;refine ai ?_;simp only[seval,fS];rw[if_pos ⟨c1,c2⟩]at dc;refine hR _ ⟨by omega,trivial,?_⟩;rw[dc];exact cT
   ·have d2:decide (n<b)=false:=decide_eq_false c2;refine ai ?_;simp only[seval,ff ha,ff hb,fQ,pj,lO,d1,d2,fS];refine aD ?_;refine aO ?_;refine ai ?_;simp only[seval,fS];rw[if_neg (λhh=>c2 hh.2)]at dc;refine hR _ ⟨by omega,trivial,?_⟩;rw[dc];exact cT
  ·have d1:decide (a<=n)=false:=decide_eq_false c1;refine ai ?_;simp only[seval,ff ha,fQ,d1];refine aD ?_;refine aO ?_;refine ai ?_;simp only[seval,fS];rw[if_neg (λhh=>c1 hh.1)]at dc;refine hR _ ⟨by omega,trivial,?_⟩;rw[dc];exact cT
 ·have dD:i=h.length-1:=by omega
  subst dD;refine bU ?_;refine ak ?_;refine bc ?_;exact b9 hk
end
open Go.Conc Go.Proofs Go.Gg.Tk
namespace Tk
end Tk
section
variable {lv:Bool}{H:List aa}{k kp:AV->List aa->Prop}
end
open Go.Conc Go.Proofs Go.Gg.Tk
def wj (τ:aZ)(ns:List Int):Int:=ns.getD (dg τ (ns.length-1)).toNat 0
section
variable {lv:Bool}{H:List aa}{k kp:AV->List aa->Prop}{Gf:aZ->List aa}{t N:Nat}{τ:aZ}{b:Int}
theorem J6{ns:List Int}{e:End}(hT:dH Gf t N)(hτ:τ.Ok b)(hb:b<2^60)(hn:1<=ns.length)(iW:ns.length<2^20)(hk:k (iv (wj τ ns)) (Gf (tick τ))):bf lv SA 45 (Gf τ) [.op t 0,.sl ns.length (ns.map iv) e] k kp:=by
 refine bI (rs:=[.tmp 4]) (nt:=13) Tryz.f45 λhH hA=> ?_;simp only[bt,SY];have bC:SD.wrap ((ns.length:Int)-1)=(ns.length:Int)-1:=bw _ (by omega);have hr:=kM τ ((ns.length:Int)-1);unfold wj at hk;obtain⟨j,hj⟩:=Int.eq_ofNat_of_zero_le hr.1;have e9:j<ns.length:=by omega
 obtain⟨v,hv⟩:=bZ e9;rw[hj]at hk;have yK:ns.getD ((j:Int)).toNat 0=v:=by rw[VR,SE,hv];rfl
 rw[yK]at hk;refine ak ?_;refine ai ?_;simp only[seval,bC];refine aJ ((oi hT hτ hb (by omega) ?_));rw[hj];(try simp only[seval,ff hv,jR e9]);refine bc ?_;exact b9 hk
theorem Q6{y:aB}{more:Int}(h1:0<=y.number.min/\y.number.min<=1000)(h2:0<=y.number.max/\y.number.max<=1000)(hm:0<=more/\more<=1000)(hk:k (aB.more y more).av H):bf lv SA 35 H [y.av,iv more] k kp:=by
 refine bI (rs:=[.cell 4 48]) (nt:=18) Tryz.f35 λhH hA=> ?_;simp only[bt,SY,aB.av];have w1:SD.wrap (y.number.min+more)=y.number.min+more:=bw _ (by omega);have w2:SD.wrap (y.number.max+more)=y.number.max+more:=bw _ (by omega);have aX:∀(L:List aa),(H++L)[H.length]?=L[0]?:=λL=>aY H L 0;refine ai ?_;simp only[seval,aB.l];refine ai ?_;simp only[seval,aX,w1,w2];refine aJ ((FR ?_));(try simp only[seval]);refine ak ?_;refine bc ?_;exact jA hH (Wk.refl _) (by simp[sf,eC]) hk
end
end Go.Gg
