/- A part of the proof. -/
import Derived.Test.YtkanpclgnhdbiaaGreatDoorTicketMixedCard2
import Derived.Conc.CrowdStepC
import Derived.Conc.LeavingOf
import Derived.Conc.AtomicLaws
import Derived.Conc.AtomicLaws2
import Derived.Conc.MarkLaws
import Derived.Conc.SmallLaws
import Derived.Laws.LoneSync
import Derived.KernelRfl
import Derived.Test.YtkanpclgnhdbiaaGreatDoorProg
import Derived.Conc.TokenWalk
set_option linter.all false
set_option maxRecDepth 4000
set_option maxHeartbeats 4000000
open Array renaming all_eq_true_iff_forall_mem->UJ,append_assoc->Xp,empty_append->Xo,ext'->VE,getD_eq_getD_getElem?->SH,getElem?_eq_getElem->SK,getElem?_eq_some_iff->SU,getElem?_push->Xe,getElem?_setIfInBounds->Wo,getElem?_setIfInBounds_ne->SW,getElem?_setIfInBounds_self_of_lt->S_,getElem_mem->XS,isEmpty_empty->YX,mem_iff_getElem?->YC,replicate->TK,size->aa'
open BitVec renaming ofInt->Ui
open Bool renaming and_eq_true->Ti,eq_iff_iff->Vo,false_or->Zu,not_eq_true'->TZ,not_false->YA,not_true->aj',true_or->af'
open Classical renaming byContradiction->Ts
open Eq renaming trans->VL
open Function renaming comp_def->Yu
open Go renaming Addr->U1,CallKind->Xa,Code->Ua,Deferred->UW,Event->Ur,Frame->Uc,FrameMode->U6,Func->Yz,FuncId->TO,GStep->ZB,Goroutine->SG,IntKind->TY,Item->WR,Machine->apT,MemOp->Wc,Oper->Tu,Operand->Th,Program->SJ,ResultVar->UN,Trace->Un,Value->SQ,World->To,mark->ad_,step->ac'
open Go.Conc renaming Deaf->US,Deaf_other->at1,Good->WV,Knows->Wm,QuitsD->Y4,act?_of->af_,casT_eq->ZZ,crowd_pick->ZU,deaf_succ->Z',finishComm_recv->Yt,finishComm_send->ae',getElem?_stand->X7,heard_old->Wq,knows_own->Zb,lt_size_of_getElem?->TH,mem_ofEvents->TL,mem_of_getElem?->XR,offersAt_of_not_blocked->UU,offersAt_parked_send->ZD,offersAt_ph->Zl,runT_crowd_spawn->Z_,seen_none->Z9,served->T6,stepG_entry->ZC,stepG_same->W_,stepG_value->at0,touch_of->UT,woken_run->Yg
open Go.Conc.QuitsD renaming status->ZE
open Go.ConcN renaming le_sumTo->WB,sumTo_congr->Vl
open Go.Event renaming mute->WF
open Go.Extern.Atomic renaming casT->WS,loadT->XY,storeT->XQ,update->XP
open Go.Extern.Race renaming marked->VK,none_->W3
open Go.Extern.Sync renaming semacquire->WE,semrelease->XO
open Go.GStep renaming after->T5
open Go.Goroutine.mk renaming injEq->ae_
open Go.Instr renaming loadAt->Xx,sureAddr->U7
open Go.IntKind renaming i64->SE,u32->ai_,u64->Tx,wrap->W9
open Go.MemAct renaming ofEvent->Tq
open Go.MemOp renaming ofEvents->Ta
open Go.Obj renaming deferred->aub
open Go.Op renaming intArith->aua
open Go.Operand renaming const->at7,tmp->asI
open Go.Proofs.Tryz renaming f77->XK,prog->SC
open Go.Region renaming wanted->Tg
open Go.Result renaming ok->Yc
open Go.Sem renaming runT_eq->TA
open Go.Trace renaming g?->Wz
open Go.Value renaming bool->W8,chan->XN,int->SF
open Go.World renaming cell?->Uy,frozen?->ZP,setChan->We
open Int renaming toNat_natCast->VQ
open List renaming any_cons->YP,any_eq_true->UI,append_assoc->SA,append_nil->SI,cons_append->Ve,drop->T1,drop_eq_nil_of_le->TW,eq_nil_of_length_eq_zero->VC,ext_getElem?->Yj,findIdx?_eq_none_iff->Ya,findIdx?_eq_some_iff_getElem->Xr,flatMap_append->Vz,foldl_append->ZN,foldl_cons->UX,forall_mem_cons->Xc,getD_eq_getElem?_getD->SD,getElem?_append_left->SY,getElem?_append_right->S8,getElem?_drop->Up,getElem?_eq_getElem->SO,getElem?_eq_none->Uu,getElem?_eq_some_iff->SM,getElem?_map->Tn,getElem?_range->XI,getElem?_set->UP,getElem?_set_ne->T7,getElem?_toArray->Vb,getElem_mem->Wy,getLast?_eq_some_getLast->XM,getLastD_eq_getLast?->Vf,getLast_mem->Zo,head?_append->WL,length_append->SP,length_cons->Uk,length_map->Tm,length_nil->UR,length_pos_iff->Vt,length_range->ZL,length_singleton->T8,mapM_cons->T_,mapM_nil->UC,mapM_toArray->XX,map_append->TN,map_cons->UV,mem_append->SV,mem_append_left->Tf,mem_append_right->S4,mem_cons->SL,mem_flatMap->S6,mem_iff_getElem?->UQ,mem_map->Tl,mem_of_getElem?->Td,mem_range->TF,mem_replicate->Xu,mem_singleton->S9,mem_toArray->TJ,nil_append->UK,nodup_append->U4,nodup_nil->WK,nodup_range->X5,not_mem_nil->S0,range->SZ,range_succ->Vk,replicate->TG,set_append_left->U2,set_cons_succ->UE,set_cons_zero->T4,set_set->W4,take->TU,take_add_one->VJ,take_append_of_le_length->Tw,take_length->TQ,take_of_length_le->SS,take_succ_eq_append_getElem->XF
open List.cons renaming inj->Vx
open Nat renaming add_sub_cancel_left->TS,add_zero->UD,eq_zero_or_pos->UH,le_refl->SR,le_trans->UL,lt_of_lt_of_le->Tc,lt_succ_self->Uw,reduceAdd->SX,reduceEqDiff->Zw
open Option renaming bind_eq_bind->TP,bind_eq_some_iff->Te,getD_none->Vm,getD_some->S7,map_eq_some_iff->Tp,map_some->UO,pure_def->Uj
open Option.some renaming inj->Vj,injEq->Tj
open Prod.mk renaming inj->WW,injEq->UY
namespace Go.Gg
open Go.Conc Go.ConcN
section
variable {P:SJ}{n0:Nat}{W0:To}{V:View}{gs gs':Array SG}{w w':To}{sl:Option (Nat×Nat)}{t:Un}{K:Nat->GS}{Im:cE}{ic:Nat}{p:Phase}{st st':Option eG}
theorem Pd{t:Un}{g i j:Nat}(hi:t.g? i=some g)(hj:t.g? j=some g)(h:i<=j):Before t i j:=by
 rcases Nat.eq_or_lt_of_le h with rfl|h
 ·exact .inl rfl
 ·obtain⟨a,ha,rfl⟩:=Tp.1 hi;obtain⟨b,hb,hg⟩:=Tp.1 hj;exact .inr (.single (.inl ⟨h,by simp[Wz,ha,hb,hg]⟩))
theorem Inv.aeQ(h:Inv P n0 W0 V gs w t K Im ic (some p) st)(aH:p.recv=true){n:Nat}{gi:SG}(aL:gs[ic]?=some gi)(hK:K ic=.acq n)(jT:uk P Im p.c p.Wg (US t ic) gi):gU P n0 W0 V gs w sl t K Im ic (some p) st ic:=by
 obtain⟨s,hs,gM,jf,hm⟩:=h.mode aH;obtain⟨m1,m2,m3,m4,m5⟩:=hm.OS (.inr (by rw[hK];rfl));obtain⟨hd,bO,g',aR,n',b9⟩:=jT;have n4:∀e∈#[kB (.acquire (ep p.Wg))],e=kB (.acquire (ep p.Wg)):=λe he=>by simpa using he
 have aai:g'.status=.running:=cZ.running (λd g x=>x.2.1) b9;refine h.ue aH (k':=.look n') (s':=.got) gM aL (aR w) (by rw[hd];exact b9) (by rw[hK];exact GI Im) (λ_=>rfl) rfl (λj hj=>by rw[hK]at hj;cases hj) (.inl rfl) (λe he x hx=> ?_) (λe he=> ?_) (λe he a=> ?_) rfl (λ_ _ _=>rfl) rfl rfl rfl
  ?_ (.inl m1) ?_ (yM jf (by rw[hK];exact .inl (by simp[GS.di])))
 ·rw[n4 e he]at hx;cases hx
 ·rw[n4 e he];exact h.low.2
 ·rw[n4 e he];simp[kB,Tq]
 ·unfold Mode;have e1:sumTo gs.size (λi=>(upd K ic (.look n') i).cnt)=0:=by rw[lQ K (.look n') GS.cnt (by rw[hK];rfl)];exact m4
  have e2:sumTo gs.size (λi=>(upd K ic (.look n') i).late)=0:=by rw[lQ K (.look n') GS.late (by rw[hK];rfl)];exact m3
  simp only[e1,e2,bB];exact .inr (.inr (.inr (.inr (.inr (.inl ⟨m1,trivial,trivial,trivial,.inl rfl⟩)))))
 ·have hr:Rest p.Wg t K ic st:=h.out.2.2.1;rw[hs,m2]at hr;rw[ofEvents_one];refine hr.app (λidx a ha hx=> .inr ?_) (λidx a _ ⟨op,ay,_,hx⟩ _=> ?_)
  ·obtain⟨i,KJ,eQ,hx⟩:=hx;have akL:=h.core.ti.norel;have own:t.g? idx=some ic->Wm (t++#[{g:=ic,fn:=gi.frame.fn,pos:=gi.frame.place,act:=.ofEvent (kB (.acquire (ep p.Wg)))}]) ic idx:=λe=>by
    obtain⟨op,ho,pO⟩:=Tp.1 e;rw[<- pO];exact(Zb ho).app _
   rcases hx with hx|rfl|⟨r,rZ,hle⟩
   ·exfalso;have akx:i<gs.size:=by
     obtain⟨op,ho,pO⟩:=Tp.1 KJ;rw[<- pO];exact h.core.ti.gs op (XR ho)
    have fX:(K i).cnt=1:=by cases lB:K i<;>rw[lB]at hx<;>first|rfl|cases hx
    have hle:(K i).cnt<=sumTo gs.size λi=>(K i).cnt:=WB (f:=λi=>(K i).cnt) akx;omega
   ·exact own KJ
   ·exact aeR rZ.act rZ.heard akL ⟨rfl,rfl⟩ hd (Pd KJ rZ.g hle)
  ·simp only[TJ,SL,S0,or_false]at ay;subst ay;cases hx
theorem Rest.got{Wg:Nat}(hr:Rest Wg t K ic (some .got)){es:Array Ur}{fn:TO}{pos:String}{K':Nat->GS}:Rest Wg (t++Ta ic fn pos es) K' ic (some .got):=by
 refine hr.app (λidx a ha hx=> .inr (Knows.app _ hx)) (λidx a _ ⟨op,ay,dg,_⟩ _=> .inr (.inr ?_));obtain⟨e,_,rfl⟩:=TL ay;exact Zb dg
theorem Inv.amZ(h:Inv P n0 W0 V gs w t K Im ic (some p) st)(aH:p.recv=true){n:Nat}{gi:SG}(aL:gs[ic]?=some gi)(hK:K ic=.look n)(jT:H9 P Im p.c (US t ic) gi):gU P n0 W0 V gs w sl t K Im ic (some p) st ic:=by
 obtain⟨s,hs,gM,jf,hm⟩:=h.mode aH;obtain⟨m1,m2,m3,m4⟩:=hm.OT (.inl (by rw[hK];rfl));obtain⟨hd,bO,b,o,x,g',l7,aR,n',b9⟩:=jT;have fN:Sat ((K ic).view Im) w:=by have:=h.core.sat ic jf;rwa [show bJ V Im K ic=(K ic).view Im by simp[bJ];omega]at this
 have Ko:=fN.ab b o x (by rw[hK];exact l7);have hb:=fN.Dg (show ((K ic).view Im).ab b o=some x by rw[hK];exact l7);have n4:∀e∈(#[⟨.cell ⟨b,o,none⟩,false,false⟩]:Array Ur),e=⟨.cell ⟨b,o,none⟩,false,false⟩:=λe he=>by simpa using he
 have cT:=h.blind gM;refine h.ue aH (k':=.close n') (s':=.got) gM aL (aR w Ko) (by rw[hd];exact b9) (by rw[hK];exact amJ Im) (λ_=>rfl) rfl (λj hj=>by rw[hK]at hj;cases hj) (.inl rfl) (λe he y hy=> .inr (.inr ?_)) (λe he=> ?_) (λe he a=> ?_) rfl (λ_ _ _=>rfl) rfl rfl rfl
  ?_ (.inl m1) ?_ (yM jf (by rw[hK];exact .inl (by simp[GS.di])))
 ·rw[n4 e he]at hy;cases hy;refine⟨λee=> ?_,.inr (by rw[hK];show Im b o≠none;rw[l7];simp),rfl⟩;have e1:b=p.Wg:=ee;have:=cT.2.2.2 o;rw[hK]at this;have e2:Im p.Wg o=none:=this;rw[<- e1,l7]at e2;cases e2
 ·rw[n4 e he];exact hb
 ·rw[n4 e he];simp[Tq]
 ·unfold Mode;have e1:sumTo gs.size (λi=>(upd K ic (.close n') i).cnt)=0:=by rw[lQ K (.close n') GS.cnt (by rw[hK];rfl)];exact m4
  have e2:sumTo gs.size (λi=>(upd K ic (.close n') i).late)=0:=by rw[lQ K (.close n') GS.late (by rw[hK];rfl)];exact m3
  simp only[e1,e2,bB];exact .inr (.inr (.inr (.inr (.inr (.inl ⟨m1,trivial,trivial,trivial,.inr rfl⟩)))))
 ·have hr:Rest p.Wg t K ic st:=h.out.2.2.1;rw[hs,m2]at hr;exact hr.got
theorem Inv.agy(h:Inv P n0 W0 V gs w t K Im ic (some p) st)(aH:p.recv=true){n:Nat}{gi:SG}(aL:gs[ic]?=some gi)(hK:K ic=.close n)(jT:H7 P p.c (US t ic) gi):gU P n0 W0 V gs w sl t K Im ic (some p) st ic:=by
 obtain⟨s,hs,gM,jf,hm⟩:=h.mode aH;obtain⟨⟨nn,m1⟩,m2,m3,m4⟩:=hm.OT (.inr (by rw[hK];rfl));obtain⟨hd,bO,K6,g',aR,q,mI⟩:=jT;have mb:=aR w nn m1;have fZ:∀e∈(#[⟨.obj p.c,false,true⟩,⟨.obj p.c,true,true⟩]:Array Ur),e=⟨.obj p.c,false,true⟩\/e=⟨.obj p.c,true,true⟩:=λe he=>by simpa using he
 have K9:∀j,0<j->j<gs.size->j≠ic->(K j).idx=none:=λj _ hj _=>by
  have hle:(K j).cnt<=sumTo gs.size λi=>(K i).cnt:=WB (f:=λi=>(K i).cnt) hj;exact GS.aax (by omega)
 have KM:g'.status=.running\/g'.status=.finished:=ZE mI;have rO:p.c≠p.Wg:=h.phase.2.2.1;have Kq:=h.low.1;have eu:Ta ic gi.frame.fn gi.frame.place #[⟨.obj p.c,false,true⟩,⟨.obj p.c,true,true⟩]=#[{g:=ic,fn:=gi.frame.fn,pos:=gi.frame.place,act:=.ofEvent ⟨.obj p.c,false,true⟩},{g:=ic,fn:=gi.frame.fn,pos:=gi.frame.place,act:=.close p.c}]:=by simp[Ta,Tq]
 have g1:=rH (t:=t) (show (#[({g:=ic,fn:=gi.frame.fn,pos:=gi.frame.place,act:=.ofEvent ⟨.obj p.c,false,true⟩}:Wc),{g:=ic,fn:=gi.frame.fn,pos:=gi.frame.place,act:=.close p.c}]:Un)[1]?=some _ from rfl);have n_:∀op∈(#[({g:=ic,fn:=gi.frame.fn,pos:=gi.frame.place,act:=.ofEvent ⟨.obj p.c,false,true⟩}:Wc),{g:=ic,fn:=gi.frame.fn,pos:=gi.frame.place,act:=.close p.c}]:Un),still op.act:=by
  intro op ay;simp only[TJ,SL,S0,or_false]at ay;rcases ay with rfl|rfl<;>exact⟨by simp[Tq],by simp[Tq]⟩
 have Rz:∃n,({w with heap:=w.heap.setIfInBounds p.c (.chan 0 #[] true nn nn false)}:To).heap[p.c]?=some (.chan 0 #[] true n n false):=⟨nn,by simp[Kq]⟩;refine h.ue aH (k':=.gone q) (s':=.shut (t.size+1)) gM aL mb (by rw[hd];exact mI) (by rw[hK];exact GJ _) (λ_=>rfl) rfl (λj hj=>by rw[hK]at hj;cases hj) (.inl rfl) (λe he x hx=> .inl ?_) (λe he=> ?_) (λe he a=> ?_) (by simp) (λb hb _=>by simp[Wo,Ne.symm hb]) rfl rfl rfl
  ?_ (.inr ⟨K9,λg hg=>aod gM hg K6 KM Rz⟩) ?_ (yM jf (by rw[hK];exact .inl (by simp[GS.di])))
 ·rcases fZ e he with rfl|rfl
  ·cases hx;exact⟨rfl,rfl⟩
  ·cases hx
 ·rcases fZ e he with rfl|rfl
  ·exact Kq
  ·exact Kq
 ·rcases fZ e he with rfl|rfl<;>simp[Tq]
 ·unfold Mode;have e1:sumTo gs.size (λi=>(upd K ic (.gone q) i).cnt)=0:=by rw[lQ K (.gone q) GS.cnt (by rw[hK];rfl)];exact m4
  have e2:sumTo gs.size (λi=>(upd K ic (.gone q) i).late)=0:=by rw[lQ K (.gone q) GS.late (by rw[hK];rfl)];exact m3
  simp only[e1,e2,bB];obtain⟨n,hn⟩:=Rz;refine .inr (.inr (.inr (.inr (.inr (.inr ⟨⟨t.size+1,n,rfl,?_,?_,hn⟩,trivial,trivial,rfl⟩)))))
  ·rw[eu];exact af_ g1
  ·rw[eu];exact heard_new (k:=1) rfl rfl (by rw[uz n_ (by simp)];exact hd)
 ·have hr:Rest p.Wg t K ic st:=h.out.2.2.1;rw[hs,m2]at hr;rw[eu];refine hr.app (λidx a ha hx=> .inr (.inr (Knows.hb_new hx (by omega) g1 rfl))) (λidx a hi ⟨op,ay,dg,_⟩ _=> .inr (.inr ?_));have hlt:idx<t.size+2:=by have:=TH dg;simpa using this
  have pO:op.g=ic:=by
   simp only[TJ,SL,S0,or_false]at ay;rcases ay with rfl|rfl<;>rfl
  exact Pd (g:=ic) (by simp[Wz,dg,pO]) (by simp[Wz,g1]) (by omega)
structure Ez (P:SJ)(n0:Nat)(W0:To)(V:View)(gs:Array SG)(w:To)(sl:Option (Nat×Nat))(t:Un)(Im:cE)(ic:Nat)(p:Phase)(st:Option eG)(g:SG)(i:Nat):Prop where
 intro::
 met:∃gs' w' ops K' j sp S v lr Ow,runT P (crowd gs w sl) i=(.next (crowd gs' w' sl),ops)/\gs'.size=gs.size/\kR gs' (T6 g (.tuple #[v,.bool true]))/\p.Ss[j]?=some (sp::S)/\sp v lr Ow/\(∀b,V.own b≠none->Ow b=none)/\(∀b o,V.own b≠none->lr b o≠none->V.ab b o≠none)/\
  (∃w,Sat V w/\(∀b o x,lr b o=some x->w.cell? ⟨b,o,none⟩=some x)/\∀b x,Ow b=some x->w.heap[b]?=some x)/\
  Inv P n0 W0 (og V lr Ow (.recv p.c p.Wg (p.Ss.set j S))) gs' w' (t++ops) K' Im ic (some {p with Ss:=p.Ss.set j S}) st
theorem Inv.aqm(h:Inv P n0 W0 V gs w t K Im ic (some p) st)(aH:p.recv=true)(gY:V.deaf=0){g:SG}(hm:oA gs g p.c){i j:Nat}{gi:SG}{hh h':Ht}{Vi V₁:View}{c Wg:Nat}{sp:Spec}{S:List Spec}{v z:SQ}{B:Nat->Bool}(hi:0<i)(aL:gs[i]?=some gi)
  (hK:K i=.work j hh Vi) (hg:ej Vi V₁) (hr:V₁.role=.work c Wg (sp::S)) (hd:V₁.deaf=0) (aR:stepG P false gi w=.comm gi #[scase c v z] true .send w #[])
  (yp:sp v V₁.ab (mm B V₁)) (hk:lV P h' (mi B V₁ (.work c Wg S)) (T6 gi undef)):Ez P n0 W0 V gs w sl t Im ic p st g i:=by
 have hlt:i<gs.size:=(SU.1 aL).1;have du:=h.is i gi hi aL;simp only[hK,GS.is]at du;obtain⟨bC,_,S',hS,jz⟩:=du;rw[hg.role,jz]at hr;cases hr;have fX:(K i).cnt=1:=by rw[hK];rfl
 obtain⟨⟨n,g_⟩,lI⟩:=h.counted hi hlt fX;have eQ:(i==0)=false:=by simp;omega
 obtain⟨g0,z0,h0,lE,jd,ng⟩:=hm;have hp:partners (gs.setIfInBounds i ph) p.c false=[(0,0)]:=by
  have Fs:(gs.setIfInBounds i ph)[0]?=some (parked g0 #[rcase p.c z0] (.recv true)):=by rw[SW (by omega)];exact h0
  rw[partners_one Fs (λm x hm hx=> ?_),offersAt_parked_recv]
  ·simp
  ·rcases X7 gs i m x hx with⟨_,rfl⟩|⟨_,jU⟩
   ·exact Zl _ _
   ·exact abG (h.is m x (by omega) jU) _
 have bO:=crowd_send_meets (P:=P) (sl:=sl) (i:=i) aL (by rw[eQ];exact aR) g_ (by omega) h0 hp;rw[Yt,ae']at bO;have mK:(K i).view Im=Vi:=by rw[hK];rfl
 have aY:((gs.setIfInBounds 0 (T6 g0 (recvd true v true))).setIfInBounds i (T6 gi undef)).size=gs.size:=by simp
 have aP:US t i=0:=by rw[bC,<- hg.deaf,hd]
 have C4:Sat V₁ w:=by
  have:=h.core.sat i hlt;rw[show bJ V Im K i=(K i).view Im by simp[bJ];omega,mK]at this;exact hg.sat w this
 have Ly:Sat V w:=by have:=h.core.sat 0 h.pos;rwa [show bJ V Im K 0=V by simp[bJ]]at this
 have uX:=h.met (gs':=(gs.setIfInBounds 0 (T6 g0 (recvd true v true))).setIfInBounds i (T6 gi undef)) (w':=w.setChan p.c 0 #[] false (n+1) (n+1) false) (gi:=gi) (h':=h') (V₁:=V₁) (S:=S) (sp:=sp) (B:=B) aH gY hi hlt (by rw[hK];rfl) (by rw[mK];exact hg) (by rw[hg.role,jz]) hd aP hS hk aY
  (by rw[S_ (by simpa using hlt)]) (λm hm jg=>by rw[SW (Ne.symm hm),SW (by omega)])
  (u:=Ta i gi.frame.fn gi.frame.place #[]++#[{g:=i,fn:=gi.frame.fn,pos:=gi.frame.place,act:=.send p.c n},{g:=0,fn:=g0.frame.fn,pos:=g0.frame.place,act:=.recv p.c n 0},
    {g:=i,fn:=gi.frame.fn,pos:=gi.frame.place,act:=.sendDone p.c n},{g:=0,fn:=g0.frame.fn,pos:=g0.frame.place,act:=.recvDone p.c n}]) (s:=n) (by simp only[Ta,YX,if_true,Xo];rfl) ⟨rfl,rfl⟩ ⟨rfl,rfl⟩ ⟨rfl,rfl⟩ ⟨rfl,rfl⟩
  (by simp[We]) (λb hb=>by simp[We,Wo,Ne.symm hb]) ⟨n+1,by simp[We,h.low.1]⟩ rfl rfl rfl
 refine⟨_,_,_,_,j,sp,S,v,V₁.ab,mm B V₁,bO,aY,⟨T6 g0 (recvd true v true),?_,rfl,?_,jd,ng⟩,hS,yp,uX.1,uX.2.1,⟨w,Ly,C4.ab,λb x e=> ?_⟩,uX.2.2⟩
 ·rw[SW (by omega),S_ h.pos]
 ·simp only[T6,lE];rfl
 ·unfold mm at e;split at e
  ·exact C4.own b x e
  ·cases e
theorem Inv.aps(h:Inv P n0 W0 V gs w t K Im ic (some p) st)(aH:p.recv=true)(gY:V.deaf=0){g:SG}{z:SQ}(hm:kR gs g)(aR:stepG P true g w=.comm g #[rcase p.c z] true (.recv true) w #[])
  (hw:∃i j h' V₁ V₂ g1 v z1,0<i/\i<gs.size/\K i=.ou j h' V₁ V₂ g1 v z1):Ez P n0 W0 V gs w sl t Im ic p st g 0:=by
 obtain⟨g0,h0,hf0,lE,jd,ng⟩:=hm;have lI:stepG P (0==0) g0 w=.comm g #[rcase p.c z] true (.recv true) w #[]:=by rw[<- aR];exact W_ lE jd ng w
 obtain⟨i0,j0,a0,a1,a2,a3,a4,a5,b0,b1,b2⟩:=hw;have aj2:(K i0).cnt=1:=by rw[b2];rfl
 obtain⟨⟨n,g_⟩,Ge⟩:=h.counted b0 b1 aj2;have tT:gs[i0]?=some gs[i0]:=SK b1;have fW:∀j k,(j,k)∈partners (gs.setIfInBounds 0 ph) p.c true->k=0/\j≠0/\∃gj vj zj NM,gs[j]?=some (parked gj #[scase p.c vj zj] NM):=by
  intro j k hjk;obtain⟨x,hx,hk⟩:=mem_partners.1 hjk;rcases X7 gs 0 j x hx with⟨_,rfl⟩|⟨uT,jU⟩
  ·rw[Zl]at hk;cases hk
  ·rcases GS.runs (h.is j x (by omega) jU)with hr|⟨hf,_⟩|⟨q,h',V1,V2,g1,v,z1,e⟩|⟨_,hb,ho⟩
   ·rw[UU (by rw[hr];simp)]at hk;cases hk
   ·rw[UU (by rw[hf];simp)]at hk;cases hk
   ·have:=h.is j x (by omega) jU;simp only[e,GS.is]at this;obtain⟨_,_,rfl,_⟩:=this;rw[ZD]at hk;simp at hk;exact⟨hk,uT,g1,v,z1,.send,jU⟩
   ·have:offersAt x p.c true=[]:=(by unfold offersAt;simp[hb,ho]);rw[this]at hk;cases hk
 have aG:partners (gs.setIfInBounds 0 ph) p.c true≠[]:=by
  intro e;have fZ:(i0,0)∈partners (gs.setIfInBounds 0 ph) p.c true:=by
   have:=h.is i0 _ b0 tT;simp only[b2,GS.is]at this;obtain⟨_,_,jx,_⟩:=this;refine mem_partners.2 ⟨gs[i0],by rw[SW (by omega)];exact tT,?_⟩;rw[jx,ZD];simp
  rw[e]at fZ;cases fZ
 obtain⟨i,gj,vj,zj,NM,d,eQ,aL,bO⟩:=crowd_recv_meets_some (P:=P) (sl:=sl) h0 lI g_ aG fW;have hi:0<i:=by omega
 have hlt:i<gs.size:=(SU.1 aL).1;obtain⟨j,h',V₁,V₂,g1,v,z1,hK⟩:∃j h' V₁ V₂ g1 v z1,K i=.ou j h' V₁ V₂ g1 v z1:=by
  rcases GS.runs (h.is i _ hi aL)with hr|⟨hf,_⟩|x|⟨_,_,ho⟩
  ·cases hr
  ·cases hf
  ·exact x
  ·cases ho
 have du:=h.is i _ hi aL;simp only[hK,GS.is]at du;obtain⟨bC,hd,jx,hk,sp,S,B,hS,jz,yp,zW⟩:=du;have efr:gj.frame=g1.frame/\gj.callers=g1.callers/\gj.dying=g1.dying/\vj=v/\zj=z1/\NM=.send:=by
  simp only[parked,ae_,Tj,UY]at jx;obtain⟨e1,e2,_,e3,e4,e5⟩:=jx;simp[scase]at e4;exact⟨e1,e2,e3,e4.1,e4.2,e5⟩
 obtain⟨e1,e2,e3,rfl,rfl,rfl⟩:=efr;have esv:T6 gj undef=T6 g1 undef:=by simp[T6,e1,e2,e3]
 rw[ae',Yt,esv]at bO;subst zW;have mK:(K i).view Im=V₁:=by rw[hK];rfl
 have aY:((gs.setIfInBounds i (T6 g1 undef)).setIfInBounds 0 (T6 g (recvd true vj true))).size=gs.size:=by simp
 have C4:Sat V₁ w:=by
  have:=h.core.sat i hlt;rwa [show bJ V Im K i=(K i).view Im by simp[bJ];omega,mK]at this
 have Ly:Sat V w:=by have:=h.core.sat 0 h.pos;rwa [show bJ V Im K 0=V by simp[bJ]]at this
 have uX:=h.met (gs':=(gs.setIfInBounds i (T6 g1 undef)).setIfInBounds 0 (T6 g (recvd true vj true))) (w':=(w.at d).setChan p.c 0 #[] false (n+1) (n+1) false) (gi:=g1) (h':=h') (V₁:=V₁) (S:=S) (sp:=sp) (B:=B) aH gY hi hlt (by rw[hK];rfl) (by rw[mK];exact ej.refl _) jz hd bC hS hk aY
  (by rw[SW (by omega),S_ hlt]) (λm hm jg=>by rw[SW (by omega),SW (Ne.symm hm)])
  (u:=Ta 0 g0.frame.fn g0.frame.place #[]++#[{g:=i,fn:=gj.frame.fn,pos:=gj.frame.place,act:=.send p.c n},{g:=0,fn:=g.frame.fn,pos:=g.frame.place,act:=.recv p.c n 0},
    {g:=i,fn:=gj.frame.fn,pos:=gj.frame.place,act:=.sendDone p.c n},{g:=0,fn:=g.frame.fn,pos:=g.frame.place,act:=.recvDone p.c n}]) (s:=n) (by simp only[Ta,YX,if_true,Xo];rfl) ⟨rfl,rfl⟩ ⟨rfl,rfl⟩ ⟨rfl,rfl⟩ ⟨rfl,rfl⟩
  (by simp[We,World.at]) (λb hb=>by simp[We,World.at,Wo,Ne.symm hb]) ⟨n+1,by simp[We,World.at,h.low.1]⟩ rfl rfl rfl
 refine⟨_,_,_,_,j,sp,S,vj,V₁.ab,mm B V₁,bO,aY,⟨T6 g (recvd true vj true),?_,rfl,rfl,rfl,rfl⟩,hS,yp,uX.1,uX.2.1,⟨w,Ly,C4.ab,λb x e=> ?_⟩,uX.2.2⟩
 ·rw[S_ (by simpa using h.pos)]
 ·unfold mm at e;split at e
  ·exact C4.own b x e
  ·cases e
end
section
variable {P:SJ}{n0:Nat}{W0:To}{V:View}{gs gs':Array SG}{w w':To}{sl:Option (Nat×Nat)}{t:Un}{K:Nat->GS}{Im:cE}{ic:Nat}{ph:Option Phase}{p:Phase}{st st':Option eG}
theorem Inv.uf(h:Inv P n0 W0 V gs w t K Im ic (some p) st){i n:Nat}{gi:SG}{Stop:Nat->SG->Prop}{mk:Nat->GS}(hi:0<i)(aL:gs[i]?=some gi)(hK:K i=mk n)(b9:cZ P Stop n (US t i) gi)
  (rV:∀n d g,cZ P Stop n d g->(mk n).is P p.c p.Wg Im p.Ss d g) (ee:∀n m,(mk n).shape=(mk m).shape) (LO:∀n m,(mk n).view Im=(mk m).view Im) (Lw:∀n,rq (mk n).di (mk (n+1)).di) (Aw:∀d g,Stop d g->g.status=.running)
  (hgo:Stop (US t i) gi->gU P n0 W0 V gs w sl t K Im ic (some p) st i):gU P n0 W0 V gs w sl t K Im ic (some p) st i:=by
 cases n with
 |zero=>exact hgo b9
 |succ n=>
  rcases b9 with hs|⟨hr,g',es,hm,aR,hs⟩
  ·exact hgo hs
  ·exact h.slip (k':=mk n) hi aL (aR w) hm (rV _ _ _ hs) (λx=>by rw[cZ.running Aw hs]at x;cases x) (by rw[hK];exact ee _ _) (by rw[hK];exact LO _ _) (λ_=>cZ.running Aw hs) (by rw[hK];exact Lw n)
theorem Inv.acQ(h:Inv P n0 W0 V gs w t K Im ic (some p) st){i n:Nat}{gi:SG}{Stop:Nat->SG->Prop}{mk:Nat->GS}(hi:0<i)(aL:gs[i]?=some gi)(hK:K i=mk n)(hW:∃x y,WgAt P p.Wg w x y)(b9:iB P p.Wg Stop n (US t i) gi)
  (rV:∀n d g,iB P p.Wg Stop n d g->(mk n).is P p.c p.Wg Im p.Ss d g) (ee:∀n m,(mk n).shape=(mk m).shape) (LO:∀n m,(mk n).view Im=(mk m).view Im) (Lw:∀n,rq (mk n).di (mk (n+1)).di) (Aw:∀d g,Stop d g->g.status=.running)
  (hgo:Stop (US t i) gi->gU P n0 W0 V gs w sl t K Im ic (some p) st i):gU P n0 W0 V gs w sl t K Im ic (some p) st i:=by
 cases n with
 |zero=>exact hgo b9
 |succ n=>
  rcases b9 with hs|⟨hr,g',es,hm,aR,hs⟩
  ·exact hgo hs
  ·exact h.slip (k':=mk n) hi aL (aR w _ _ hW.choose_spec.choose_spec) hm (rV _ _ _ hs) (λx=>by rw[iB.running Aw hs]at x;cases x) (by rw[hK];exact ee _ _) (by rw[hK];exact LO _ _) (λ_=>iB.running Aw hs) (by rw[hK];exact Lw n)
theorem Inv.other(h:Inv P n0 W0 V gs w t K Im ic ph st){g:SG}(pM:kR gs g\/∃p,ph=some p/\p.recv=true/\V.deaf=0/\oA gs g p.c){i:Nat}{gi:SG}(hi:0<i)(aL:gs[i]?=some gi)(bO:gi.status=.running):
  gU P n0 W0 V gs w sl t K Im ic ph st i\/∃p,ph=some p/\Ez P n0 W0 V gs w sl t Im ic p st g i/\oA gs g p.c:=by
 have hlt:i<gs.size:=(SU.1 aL).1;have du:=h.out.1 i gi hi aL;have gone:∀q,K i=.gone q->Y4 P q (US t i) gi->gU P n0 W0 V gs w sl t K Im ic ph st i:=by
  intro q hK hq;cases q with
  |zero=>rw[hq.1]at bO;cases bO
  |succ q=>
   rcases hq with⟨hf,_⟩|⟨_,g',es,hm,aR,tO⟩
   ·rw[hf]at bO;cases bO
   ·refine h.slip (k':=.gone q) hi aL (aR w) hm ?_ (λx=>by rcases tO.status with e|e<;>rw[e]at x<;>cases x) (by rw[hK];rfl) (by rw[hK];rfl) (λx=>by rw[hK]at x;rcases x with x|x<;>cases x) (by rw[hK];exact .inr ⟨rfl,.inr ⟨rfl,Uw _⟩⟩);cases ph with
    |none=>exact⟨q,rfl,tO⟩
    |some p=>exact tO
 cases ph with
 |none=>
  obtain⟨q,hK,hq⟩:=du;exact .inl (gone q hK hq)
 |some p=>
  have fA:(K i).is P p.c p.Wg Im p.Ss (US t i) gi:=du;have qL:(K i).idx=none->(∀q,K i≠ .gone q)->p.recv=true:=λh1 h2=>by
   cases aH:p.recv with
   |true=>rfl
   |false=>
    have hx:=h.phase.2.2.2.2.2.2.2.2.2;rw[if_neg (by rw[aH];simp)]at hx;rcases hx.2.2.2.1 i hi hlt with x|⟨q,x⟩
    ·rw[h1]at x;cases x
    ·exact absurd x (h2 q)
  cases hK:K i with
  |gone q=>rw[hK]at fA;exact .inl (gone q hK fA)
  |ou j h' V1 V2 g0 v z=>
   rw[hK]at fA;obtain⟨_,_,rfl,_⟩:=fA;cases bO
  |work j hh Vi=>
   rw[hK]at fA;obtain⟨hd,LQ,S,hS,jz⟩:=fA;have mK:bJ V Im K i=Vi:=(by simp[bJ,hK,GS.view];omega);have fN:Sat Vi w:=(by have:=h.core.sat i hlt;rwa [mK]at this);cases LQ with
   |step G' W' E' V' hs hg h1 h2 h3=>
    exact .inl (h.adN hi aL hK (h1 w (hg.sat w fN)) (dq.sr hg (h2 w (hg.sat w fN))) (h3 w (hg.sat w fN)) (.mk _ w))
   |send c Wg sp S1 v z B hs hg hr cW ho h1 h2 h3=>
    have er:nA.work p.c p.Wg S=.work c Wg (sp::S1):=(by rw[<- jz,<- hg.role,hr]);cases er;rcases pM with hm|⟨p',Ap,aH,gY,hm⟩
    ·exact .inl (h.asf hm hi aL hK hg hr cW (h1 w (hg.sat w fN)) h2 h3)
    ·cases Ap;exact .inr ⟨p,rfl,h.aqm aH gY hm hi aL hK hg hr cW (h1 w (hg.sat w fN)) h2 h3,hm⟩
   |done c Wg hg hr cW h1=>
    have er:nA.work p.c p.Wg S=.work c Wg []:=(by rw[<- jz,<- hg.role,hr]);cases er;refine .inl (h.release ?_ hi aL hK hg hr cW h1);cases aH:p.recv with
    |true=>rfl
    |false=>
     have hx:=h.phase.2.2.2.2.2.2.2.2.2;rw[if_neg (by rw[aH];simp)]at hx;exact absurd rfl (hx.2.2.2.2.1 [] (Td hS))
   |slip c Wg hs hg hr h1 h3=>
    have er:nA.work p.c p.Wg S=.work c Wg []:=(by rw[<- jz,<- hg.role,hr]);cases er;have aH:p.recv=true:=by
     cases aH:p.recv with
     |true=>rfl
     |false=>
      have hx:=h.phase.2.2.2.2.2.2.2.2.2;rw[if_neg (by rw[aH];simp)]at hx;exact absurd rfl (hx.2.2.2.2.1 [] (Td hS))
    obtain⟨s,hW⟩:=h.agE aH hlt (by rw[hK];rfl);exact .inl (h.adN hi aL hK (h1 w s (hg.sat w fN) hW) (dq.sr hg (dq.idle (hg.sat w fN))) h3 (Bp.mk (λ_=>_) w))
  |add n=>
   rw[hK]at fA;have aH:=qL (by rw[hK];rfl) (λq=>by rw[hK];simp);exact .inl (h.uf (mk:=.add) hi aL hK fA (λ_ _ _ x=>x) (λ_ _=>rfl) (λ_ _=>rfl) (λn=> .inr ⟨rfl,.inr ⟨rfl,Uw _⟩⟩) (λ_ _ x=>x.2.1) (λhs=>h.aeV aH hi aL hK hs))
  |load n=>
   rw[hK]at fA;have aH:=qL (by rw[hK];rfl) (λq=>by rw[hK];simp);exact .inl (h.uf (mk:=.load) hi aL hK fA (λ_ _ _ x=>x) (λ_ _=>rfl) (λ_ _=>rfl) (λn=> .inr ⟨rfl,.inr ⟨rfl,Uw _⟩⟩) (λ_ _ x=>x.2.1) (λhs=>h.amY aH hi aL hK hs))
  |store n=>
   rw[hK]at fA;have aH:=qL (by rw[hK];rfl) (λq=>by rw[hK];simp);exact .inl (h.uf (mk:=.store) hi aL hK fA (λ_ _ _ x=>x) (λ_ _=>rfl) (λ_ _=>rfl) (λn=> .inr ⟨rfl,.inr ⟨rfl,Uw _⟩⟩) (λ_ _ x=>x.2.1) (λhs=>h.aq7 aH hi aL hK hs))
  |mT n=>
   rw[hK]at fA;have aH:=qL (by rw[hK];rfl) (λq=>by rw[hK];simp);exact .inl (h.uf (mk:=.mT) hi aL hK fA (λ_ _ _ x=>x) (λ_ _=>rfl) (λ_ _=>rfl) (λn=> .inr ⟨rfl,.inr ⟨rfl,Uw _⟩⟩) (λ_ _ x=>x.2.1) (λhs=>h.aql aH hi aL hK hs))
  |head k n=>
   rw[hK]at fA;have aH:=qL (by rw[hK];rfl) (λq=>by rw[hK];simp);have gw:i=ic:=h.sD hi (by rw[hK];rfl);exact .inl (h.uf (mk:=.head k) hi aL hK fA (λ_ _ _ x=>x) (λ_ _=>rfl) (λ_ _=>rfl) (λn=> .inr ⟨rfl,.inr ⟨rfl,Uw _⟩⟩) (λ_ _ x=>RJ x) (λhs=>by subst gw;exact h.ako aH aL hK hs))
  |mB v n=>
   rw[hK]at fA;have aH:=qL (by rw[hK];rfl) (λq=>by rw[hK];simp);have gw:i=ic:=h.sD hi (by rw[hK];rfl);exact .inl (h.uf (mk:=.mB v) hi aL hK fA (λ_ _ _ x=>x) (λ_ _=>rfl) (λ_ _=>rfl) (λn=> .inr ⟨rfl,.inr ⟨rfl,Uw _⟩⟩) (λ_ _ x=>x.2.1) (λhs=>by subst gw;exact h.agt aH aL hK hs))
  |said n=>
   rw[hK]at fA;have aH:=qL (by rw[hK];rfl) (λq=>by rw[hK];simp);have gw:i=ic:=h.sD hi (by rw[hK];rfl);exact .inl (h.acQ (mk:=.said) hi aL hK (h.OK aH (n:=n) (.inr (by rw[<- gw];exact hK))) fA (λ_ _ _ x=>x) (λ_ _=>rfl) (λ_ _=>rfl) (λn=> .inr ⟨rfl,.inr ⟨rfl,Uw _⟩⟩) (λ_ _ x=>x.2.1) (λhs=>by subst gw;exact h.ap2 aH aL hK hs))
  |iE n=>
   rw[hK]at fA;have aH:=qL (by rw[hK];rfl) (λq=>by rw[hK];simp);have gw:i=ic:=h.sD hi (by rw[hK];rfl);rcases fA with fA|⟨_,g1,rfl,_⟩
   ·exact .inl (h.uf (mk:=.iE) hi aL hK fA (λ_ _ _ x=> .inl x) (λ_ _=>rfl) (λ_ _=>rfl) (λn=> .inr ⟨rfl,.inr ⟨rfl,Uw _⟩⟩) (λ_ _ x=>x.2.1) (λhs=>by subst gw;exact h.agF aH aL hK hs))
   ·cases bO
  |last n=>
   rw[hK]at fA;have aH:=qL (by rw[hK];rfl) (λq=>by rw[hK];simp);have gw:i=ic:=h.sD hi (by rw[hK];rfl);exact .inl (h.uf (mk:=.last) hi aL hK fA (λ_ _ _ x=>x) (λ_ _=>rfl) (λ_ _=>rfl) (λn=> .inr ⟨rfl,.inr ⟨rfl,Uw _⟩⟩) (λ_ _ x=>x.2.1) (λhs=>by subst gw;exact h.ami aH aL hK hs))
  |acq n=>
   rw[hK]at fA;have aH:=qL (by rw[hK];rfl) (λq=>by rw[hK];simp);have gw:i=ic:=h.sD hi (by rw[hK];rfl);exact .inl (h.acQ (mk:=.acq) hi aL hK (h.OK aH (n:=n) (.inl (by rw[<- gw];exact hK))) fA (λ_ _ _ x=>x) (λ_ _=>rfl) (λ_ _=>rfl) (λn=> .inr ⟨rfl,.inr ⟨rfl,Uw _⟩⟩) (λ_ _ x=>x.2.1) (λhs=>by subst gw;exact h.aeQ aH aL hK hs))
  |look n=>
   rw[hK]at fA;have aH:=qL (by rw[hK];rfl) (λq=>by rw[hK];simp);have gw:i=ic:=h.sD hi (by rw[hK];rfl);exact .inl (h.uf (mk:=.look) hi aL hK fA (λ_ _ _ x=>x) (λ_ _=>rfl) (λ_ _=>rfl) (λn=> .inr ⟨rfl,.inr ⟨rfl,Uw _⟩⟩) (λ_ _ x=>x.2.1) (λhs=>by subst gw;exact h.amZ aH aL hK hs))
  |close n=>
   rw[hK]at fA;have aH:=qL (by rw[hK];rfl) (λq=>by rw[hK];simp);have gw:i=ic:=h.sD hi (by rw[hK];rfl);exact .inl (h.uf (mk:=.close) hi aL hK fA (λ_ _ _ x=>x) (λ_ _=>rfl) (λ_ _=>rfl) (λn=> .inr ⟨rfl,.inr ⟨rfl,Uw _⟩⟩) (λ_ _ x=>x.2.1) (λhs=>by subst gw;exact h.agy aH aL hK hs))
theorem Inv.awake(h:Inv P n0 W0 V gs w t K Im ic ph st){g:SG}(pM:kR gs g\/∃p,ph=some p/\p.recv=true/\V.deaf=0/\oA gs g p.c):∀x∈gs,awake x:=by
 intro x hx;obtain⟨i,hi⟩:=YC.1 hx;rcases UH i with rfl|eQ
 ·rcases pM with⟨g0,h0,h1,_⟩|⟨p,_,_,_,g0,z,h0,_⟩
  ·rw[hi]at h0;cases h0;intro s;rw[h1];simp
  ·rw[hi]at h0;cases h0;intro s;simp[parked]
 ·have du:=h.out.1 i x eQ hi;intro s;cases ph with
  |none=>
   obtain⟨q,_,hq⟩:=du;rcases hq.status with e|e<;>rw[e]<;>simp
  |some p=>
   rcases GS.runs (show (K i).is P p.c p.Wg Im p.Ss (US t i) x from du)with e|⟨e,_⟩|⟨j,h',V1,V2,g1,v,z,e⟩|⟨_,e,_⟩
   ·rw[e];simp
   ·rw[e];simp
   ·have fA:(K i).is P p.c p.Wg Im p.Ss (US t i) x:=du;rw[e]at fA;obtain⟨_,_,rfl,_⟩:=fA;simp[parked]
   ·rw[e];simp
end
def Ok (P:SJ)(Post:SQ->To->Prop)(m:apT)(t:Un):Prop:=
 ∃M last o w' t',runNT P (M+1) m t=(.ended o w',t')/\runN P M m=.next last/\step P last=.ended o w'/\WV P Post last o w' t'
section
variable {P:SJ}{Post:SQ->To->Prop}
theorem Ok.step{m m':apT}{t:Un}{ops:Array Wc}(hs:stepT P m=(.next m',ops))(h:Ok P Post m' (t++ops)):Ok P Post m t:=by
 obtain⟨M,last,o,w',t',h1,h2,h3,h4⟩:=h;refine⟨M+1,last,o,w',t',?_,?_,h3,h4⟩
 ·rw[runNT,hs];exact h1
 ·have:ac' P m=.next m':=by unfold ac';rw[hs]
  rw[runN,this];exact h2
theorem Ok.end{m:apT}{t:Un}{o:Outcome}{w':To}{ops:Array Wc}(hs:stepT P m=(.ended o w',ops))(h:WV P Post m o w' (t++ops)):Ok P Post m t:=by
 refine⟨0,m,o,w',t++ops,?_,rfl,?_,h⟩
 ·simp[runNT,hs]
 ·unfold ac';rw[hs]
end
section
variable {P:SJ}{n0:Nat}{W0:To}{V:View}{gs gs':Array SG}{w w':To}{sl:Option (Nat×Nat)}{t:Un}{K:Nat->GS}{Im:cE}{ic:Nat}{ph:Option Phase}{p:Phase}{st st':Option eG}
theorem Inv.draw(h:Inv P n0 W0 V gs w t K Im ic ph st)(d:Nat):Inv P n0 W0 V gs (w.at d) t K Im ic ph st:=
 let⟨a,b,c,e⟩:=h.out
 Inv.mk' h.pos h.k0 h.d0 a (b.draw d) c (by cases ph<;>exact e)
theorem NT{f:Nat->Nat}:∀{N:Nat},0<sumTo N f->∃i,i<N/\0<f i
 |0,h=>by simp[sumTo]at h
 |N+1,h=>by
  by_cases hN:0<f N
  ·exact⟨N,by omega,hN⟩
  ·obtain⟨i,hi,hf⟩:=NT (N:=N) (f:=f) (by rw[sumTo]at h;omega);exact⟨i,by omega,hf⟩
theorem Inv.aqy(h:Inv P n0 W0 V gs w t K Im ic (some p) st)(aH:p.recv=true)(ho:zo w p.c)(tz:Calm gs):∃i gi,0<i/\gs[i]?=some gi/\gi.status=.running:=by
 obtain⟨s,hs,gM,jf,hm⟩:=h.mode aH;have h0:=h.k0;have Cg:gs[ic]?=some gs[ic]:=SK jf;have atv:(K ic).is P p.c p.Wg Im p.Ss (US t ic) gs[ic]:=h.is ic _ gM Cg;have run:∀i x,0<i->gs[i]?=some x->(∀q,K i≠ .gone q)->(∀n,K i≠ .iE n)->x.status=.running:=by
  intro i x hi hx h1 h2;rcases GS.runs (show (K i).is P p.c p.Wg Im p.Ss (US t i) x from h.is i x hi hx)with e|⟨_,q,e⟩|⟨j,h',V1,V2,g1,v,z,e⟩|⟨⟨n,e⟩,_⟩
  ·exact e
  ·exact absurd e (h1 q)
  ·have cu:=h.is i x hi hx;simp only[e,GS.is]at cu;obtain⟨_,_,jx,_⟩:=cu;have:=tz i x hi hx (by rw[jx];rfl);rw[jx]at this;cases this
  ·exact absurd e (h2 n)
 have L4:(∀q,K ic≠ .gone q)->(∀n,K ic≠ .iE n)->∃i gi,0<i/\gs[i]?=some gi/\gi.status=.running:=λa b=>⟨ic,_,gM,Cg,run ic _ gM Cg a b⟩;have other:∀i,i<gs.size->(K i).cnt=1\/(K i).late=1->∃i gi,0<i/\gs[i]?=some gi/\gi.status=.running:=by
  intro i hi hc;have eQ:0<i:=by
   rcases UH i with rfl|x
   ·rw[h0]at hc;rcases hc with c|c<;>cases c
   ·exact x
  exact⟨i,_,eQ,SK hi,run i _ eQ (SK hi) (λq e=>by rw[e]at hc;rcases hc with c|c<;>cases c) (λq e=>by rw[e]at hc;rcases hc with c|c<;>cases c)⟩
 have one:∀i,0<(K i).cnt->(K i).cnt=1:=λi hi=>by cases e:K i<;>rw[e]at hi<;>first|rfl|exact absurd hi (by simp[GS.cnt])
 have anX:∀i,0<(K i).late->(K i).late=1:=λi hi=>by cases e:K i<;>rw[e]at hi<;>first|rfl|exact absurd hi (by simp[GS.late])
 unfold Mode at hm;rcases hm with m|m|m|m|m|m|m
 ·rcases m.2.2.2.2.2 with⟨k,e,_⟩|⟨v,e,_⟩<;>exact L4 (λq x=>by rw[x]at e;cases e) (λq x=>by rw[x]at e;cases e)
 ·obtain⟨i,hi,hc⟩:=NT (N:=gs.size) (f:=λi=>(K i).cnt) (by have:=m.2.2.2.1;omega);exact other i hi (.inl (one i hc))
 ·obtain⟨i,hi,hc⟩:=NT (N:=gs.size) (f:=λi=>(K i).late) (by have:=m.2.2.1;omega);exact other i hi (.inr (anX i hc))
 ·exact⟨ic,_,gM,Cg,m.2.2.2.2.2.1 _ Cg⟩
 ·rcases m.2.2.2.2.2 with e|e<;>exact L4 (λq x=>by rw[x]at e;cases e) (λq x=>by rw[x]at e;cases e)
 ·rcases m.2.2.2.2 with e|e<;>exact L4 (λq x=>by rw[x]at e;cases e) (λq x=>by rw[x]at e;cases e)
 ·obtain⟨⟨_,n,_,_,_,aZ⟩,_⟩:=m;obtain⟨n',ho⟩:=ho;rw[aZ]at ho;simp at ho
theorem sH(V':View)(Im:cE)(K:Nat->GS):bJ V' Im K=upd (bJ V Im K) 0 V':=by
 funext j;by_cases hj:j=0
 ·subst hj;rw[bB];simp[bJ]
 ·rw[ba _ _ hj];simp[bJ,hj]
theorem ln:bJ V Im K 0=V:=by simp[bJ]
def vN (r:nA)(ph:Option Phase):Prop:=match r with
 |.plain=>ph=none
 |.fork c Wg Ss=>ph=some ⟨c,Wg,Ss,false⟩
 |.recv c Wg Ss=>ph=some ⟨c,Wg,Ss,true⟩
 |.work .. =>False
theorem Inv.am8(h:Inv P n0 W0 V gs w t K Im ic ph st){V':View}(g:ej V V')(hr:vN V.role ph):Inv P n0 W0 V' gs w t K Im ic ph st:=by
 obtain⟨du,hc,ni,hO⟩:=h.out;refine Inv.mk' h.pos h.k0 (by rw[g.deaf];exact h.d0) du ?_ ni ?_
 ·rw[sH (V:=V)];exact hc.ghost h.pos (by rw[ln];exact g)
 ·cases ph with
  |none=>exact hO
  |some p=>
   obtain⟨a1,a2,a3,a4,a5,a6,a7,a8,a9,b8⟩:=hO;refine⟨a1,a2,a3,a4,a5,a6,a7,a8,a9,?_⟩;split
   ·rename_i aH;rw[if_pos aH]at b8;have b:jI p V:=⟨b8.1.1,b8.1.2.1,b8.1.2.2.1,b8.1.2.2.2⟩;have b':=b.ghost g;exact⟨⟨b'.1,b'.2.1,b'.2.2.1,b'.2.2.2⟩,b8.2⟩
   ·rename_i aH;rw[if_neg aH]at b8;refine⟨g.chan _ _ ?_ b8.1,b8.2⟩;unfold vN at hr;split at hr
    ·cases hr
    ·cases hr;rename_i e;rw[e];rfl
    ·cases hr;exact absurd rfl aH
    ·exact hr.elim
theorem Inv.aa7(h:Inv P n0 W0 V gs w t K Im ic ph st){g0 g':SG}{es:Array Ur}{V':View}(h0:gs[0]?=some g0)(s:dq V w V' w' es)(hr:vN V.role ph):
  Inv P n0 W0 V' ((gs.map (woken P g0 g' w')).setIfInBounds 0 g') w' (t++Ta 0 g0.frame.fn g0.frame.place es) K Im ic ph st:=by
 obtain⟨du,hc,ni,hO⟩:=h.out;have aY:((gs.map (woken P g0 g' w')).setIfInBounds 0 g').size=gs.size:=by simp
 have C5:∀op∈Ta 0 g0.frame.fn g0.frame.place es,op.g=0:=λop ay=>by obtain⟨e,_,rfl⟩:=TL ay;rfl
 have eM:∀{u:Un}{idx:Nat}{op:Wc},(t++u)[idx]?=some op->op.g=0->Wm (t++u) 0 idx:=λ{u idx op} a b=>by have:=Zb a;rwa [b]at this
 have Ry:∀p,ph=some p->w'.heap[p.c]?=w.heap[p.c]?:=by
  rintro p rfl
  obtain⟨a1,a2,a3,a4,a5,a6,a7,a8,a9,b8⟩:=hO;by_cases aH:p.recv=true
  ·rw[if_pos aH]at b8;exact s.frame _ a4 b8.1.1
  ·rw[if_neg aH]at b8;have cH:Sat V w:=(by have:=hc.sat 0 h.pos;rwa [ln]at this);have fx:V.role.chan=some p.c:=by
    unfold vN at hr;split at hr
    ·cases hr
    ·cases hr;rename_i e;rw[e];rfl
    ·cases hr;exact absurd rfl aH
    ·exact hr.elim
   rw[s.sat.own _ _ (s.chan _ _ fx b8.1),cH.own _ _ b8.1]
 refine Inv.mk' (by rw[aY];exact h.pos) h.k0 (by rw[Deaf_own,s.deaf,h.d0]) (λj x hj hx=> ?_) ?_ ?_ ?_
 ·rcases getElem?_next h.pos hx with⟨e,_⟩|⟨_,y,hy,rfl⟩
  ·omega
  ·rw[at1 t (g:=j) (g':=0) (by omega) _ C5];have De:=du j y hj hy;have KX:j<gs.size:=(SU.1 hy).1;cases ph with
   |none=>
    obtain⟨q,hq,pY⟩:=De;exact⟨q,hq,by rw[woken_quitsD pY];exact pY⟩
   |some p=>
    refine aaC ?_ De;rcases h.opens rfl with⟨n,x⟩|x
    ·exact .inl ⟨n,by rw[Ry p rfl];exact x⟩
    ·exact .inr (x.1 j hj KX)
 ·rw[aY,sH (V:=V)];refine hc.step h.pos (by rw[ln];exact s) (λe he x hx hs=> ?_) g0.frame.fn g0.frame.place;cases ph with
  |none=>exact hs.elim
  |some p=>
   obtain⟨a1,a2,a3,a4,a5,a6,a7,a8,a9,b8⟩:=hO;have qC:=Jh (s.fD e he) hx;by_cases aH:p.recv=true
   ·exfalso;rw[if_pos aH]at b8;have b:jI p V:=⟨b8.1.1,b8.1.2.1,b8.1.2.2.1,b8.1.2.2.2⟩;rcases qC.1 with y|⟨y,_⟩|y
    ·exact b.AJ y.rd hs
    ·exact b.AJ y hs
    ·exact y (acK a4 a5 hs)
   ·rw[if_neg aH]at b8;have jz:V.role.chan=some p.c/\V.role.group=some p.Wg:=by
     unfold vN at hr;split at hr
     ·cases hr
     ·cases hr;rename_i e;rw[e];exact⟨rfl,rfl⟩
     ·cases hr;exact absurd rfl aH
     ·exact hr.elim
    have kE:nE (some p) gs.size ic K 0:=by
     show jp p gs.size ic K 0;unfold jp;rw[if_neg aH];exact .inl rfl
    have CV:x.kind≠ .plain:=by
     intro hk;cases hl:x.loc with
     |cell a=>rw[hl]at hs;exact qC.2.2 _ a jz.2 hl hs hk
     |obj r=>rw[hl]at hs;exact qC.2.1 _ jz.1 (by rw[hl];exact congrArg _ hs)
     |_=>rw[hl]at hs;exact hs.elim
    cases hk:x.kind with
    |plain=>exact absurd hk CV
    |atomic=>exact .inl ⟨rfl,kE⟩
    |said=>exact .inr ⟨rfl,b8.2.1.symm,kE⟩
 ·have wC:∀idx a,t.size<=idx->(∃op∈Ta 0 g0.frame.fn g0.frame.place es,(t++Ta 0 g0.frame.fn g0.frame.place es)[idx]?=some op/\op.act.touch?=some a)->Wm (t++Ta 0 g0.frame.fn g0.frame.place es) 0 idx:=λidx a _ ⟨op,ay,hi,_⟩=>eM hi (C5 op ay);cases st with
  |none=>
   intro idx a ha hm;rcases A9 ha with gL|⟨hi,x⟩
   ·obtain⟨op,ay,_⟩:=UT gL;rcases ni idx a gL hm with x|⟨x,y⟩|⟨_,z,_⟩
    ·exact .inl (x.app _)
    ·exact .inr (.inl ⟨x,λz=>y ((Wq (TH ay)).1 z)⟩)
    ·cases z
   ·exact .inl (wC idx a hi x)
  |some s'=>
   exact ni.app (λidx a ha hx=> .inr (hx.app (by obtain⟨op,ay,_⟩:=UT ha;exact TH ay) λj _ _ hj=> .inl hj)) (λidx a hi x _=> .inl (wC idx a hi x))
 ·cases ph with
  |none=>exact hO
  |some p=>
   obtain⟨a1,a2,a3,a4,a5,a6,a7,a8,a9,b8⟩:=hO;refine⟨a1,a2,a3,Tc a4 s.size,Tc a5 s.size,a6,a7,λj j' m b1 b2 b3 b4=>a8 j j' m b1 (aY▸b2) b3 (aY▸b4),λj S b1 b2=>by rw[aY];exact a9 j S b1 b2,?_⟩;split
   ·rename_i aH;rw[if_pos aH]at b8;obtain⟨c1,c2,c3,s',c4,c5⟩:=b8;have b:jI p V:=⟨c1.1,c1.2.1,c1.2.2.1,c1.2.2.2⟩;have b':=b.step s a4 a5;refine⟨⟨b'.1,b'.2.1,b'.2.2.1,b'.2.2.2⟩,c2,by rw[aY];exact c3,s',c4,?_⟩;rw[aY];refine c5.keep (λ_=>rfl) (Ry p rfl) (s.frame _ a5 b.2.2.1) λr6 g hg=> ?_;rcases getElem?_next h.pos hg with⟨e,_⟩|⟨_,y,hy,rfl⟩
    ·omega
    ·rw[Yg (r6 y hy)];exact r6 y hy
   ·rename_i aH;rw[if_neg aH]at b8;have fx:V.role.chan=some p.c:=by
     unfold vN at hr;split at hr
     ·cases hr
     ·cases hr;rename_i e;rw[e];rfl
     ·cases hr;exact absurd rfl aH
     ·exact hr.elim
    exact⟨s.chan _ _ fx b8.1,b8.2.1,b8.2.2.1,by rw[aY];exact b8.2.2.2.1,b8.2.2.2.2.1,by rw[aY];exact b8.2.2.2.2.2⟩
end
theorem adx{x y:Wc}{k:Nat}(hx:x.act=.go k)(hy:y.act=.start):∀op∈(#[x,y]:Un),op.act.touch?=none/\still op.act/\(∀B,op.act.low B)/\∀a,op.act≠ .mark (.release a):=by
 intro op ay;simp only[TJ,SL,S0,or_false]at ay;rcases ay with rfl|rfl
 ·rw[hx];exact⟨rfl,⟨by simp,by simp⟩,λ_=>trivial,by simp⟩
 ·rw[hy];exact⟨rfl,⟨by simp,by simp⟩,λ_=>trivial,by simp⟩
theorem PF{t:Un}{N:Nat}(h:∀op∈t,op.g<N):US t N=0:=by
 have key:∀k,k<=t.size->t.deaf N k=0:=by
  intro k;induction k with
  |zero=>intro _;rfl
  |succ k ih=>
   intro hk;have hy:t[k]?=some t[k]:=SK (by omega);have aG:¬t[k].g=N:=(by have:=h t[k] (XS _);omega);rw[Z' hy,ih (by omega)];unfold deafStep;split<;>simp[aG]
 exact key _ (SR _)
section
variable {VV:Nat->View}{N:Nat}{w:To}{t:Un}{Sh:Loc->Prop}{act act':Nat->Prop}{ic lc n0:Nat}{W0:To}
theorem Core.spawn(h:Core VV N w t Sh act ic n0 W0)(h0:0<N)(aP:US t 0=0){x y:Wc}(hx:x.g=0/\x.act=.go N)(hy:y.g=N/\y.act=.start){U:View}(hi:U.ab=(VV 0).ab)(ho:U.own=λ_=>none)
  (kE:∀i,act' i->act i\/(i=N/\act 0)) (gw:lc=ic\/(lc=N/\ic=0)):Core (upd VV N U) (N+1) w (t++#[x,y]) Sh act' lc n0 W0:=by
 have jS:=adx hx.2 hy.2;have hdN:US t N=0:=PF h.ti.gs;have hk:∀{idx},Wm t 0 idx->Wm (t++#[x,y]) N idx:=λ{idx} jU=>fork_knows hx hy aP hdN jU;have hsU:Sat U w:=⟨λb o v e=>(h.sat 0 h0).ab b o v (by rw[<- hi];exact e),λb x e=>by rw[ho]at e;cases e⟩;refine⟨λi cu=> ?_,λa b ha hb fw=> ?_,?_,h.tape,h.os,h.out,h.old,λi cu b hb=> ?_,h.n0⟩
 ·by_cases fL:i=N
  ·subst fL;rw[bB];exact hsU
  ·rw[ba _ _ fL];exact h.sat i (by omega)
 ·by_cases Rl:a=N
  ·subst Rl;rw[bB];intro q hq;rw[ho]at hq;exact absurd rfl hq
  ·rw[ba _ _ Rl];by_cases Rs:b=N
   ·subst Rs;rw[bB];intro q hq;refine⟨by rw[ho],λo hu=> ?_⟩;rw[hi]at hu;by_cases zY:a=0
    ·subst zY;exact hu
    ·exact(h.dV a 0 (by omega) h0 zY q hq).2 o hu
   ·rw[ba _ _ Rs];exact h.dV a b (by omega) (by omega) fw
 ·refine h.ti.mute (λop ay=>(jS op ay).1) (λop ay=>(jS op ay).2.2.1 _) (λop ay=> ?_) (by omega) (λop ay=>(jS op ay).2.2.2) (λi cu l hl idx a ha gZ sh=> ?_) (λi cu l hl idx a ha gZ=> ?_) (λidx a ha ee=>⟨λhp i cu=> ?_,λhp=> ?_⟩)
  ·simp only[TJ,SL,S0,or_false]at ay;rcases ay with rfl|rfl
   ·omega
   ·omega
  ·obtain⟨_,c_,nX⟩:=hl;by_cases fL:i=N
   ·subst fL;rw[bB]at c_;have:ig (VV 0) l:=by
     cases l with
     |cell a'=>rcases c_ with z|z;exact absurd (by rw[ho]) z;exact .inr (by rw[<- hi];exact z)
     |obj r=>exact absurd (by rw[ho]) c_
     |_=>exact c_.elim
    exact hk (h.ti.kr 0 h0 l ⟨h0,this,nX⟩ idx a ha gZ sh)
   ·rw[ba _ _ fL]at c_;exact(h.ti.kr i (by omega) l ⟨by omega,c_,nX⟩ idx a ha gZ sh).app _
  ·obtain⟨_,c_,nX⟩:=hl;by_cases fL:i=N
   ·subst fL;rw[bB]at c_;exfalso;cases l with
    |cell a'=>exact c_.1 (by rw[ho])
    |obj r=>exact c_ (by rw[ho])
    |_=>exact c_.elim
   ·rw[ba _ _ fL]at c_;exact(h.ti.kw i (by omega) l ⟨by omega,c_,nX⟩ idx a ha gZ).app _
  ·have:=h.ti.sp idx a ha ee;rcases kE i cu with z|⟨rfl,z⟩
   ·exact(this.1 hp i z).app _
   ·exact hk (this.1 hp 0 z)
  ·have:=h.ti.sp idx a ha ee;rcases gw with rfl|⟨rfl,rfl⟩
   ·exact(this.2 hp).app _
   ·exact hk (this.2 hp)
 ·by_cases fL:i=N
  ·subst fL;rw[bB,ho]
  ·rw[ba _ _ fL];exact h.jD i (by omega) b hb
end
section
variable {P:SJ}{n0:Nat}{W0:To}{V:View}{gs gs':Array SG}{w w':To}{sl:Option (Nat×Nat)}{t:Un}{K:Nat->GS}{Im:cE}{ic:Nat}{ph:Option Phase}{p:Phase}{st st':Option eG}
theorem GS.adH{k:GS}(h:k.nK=false)(Im lr:cE):k.view lr=k.view Im:=by cases k<;>first|rfl|cases h
theorem GS.alS{k:GS}{c Wg d:Nat}{Im lr:cE}{Ss OF:List (List Spec)}{g:SG}(h:k.nK=false)(hS:∀(j:Nat) S,Ss[j]?=some S->OF[j]?=some S)(hk:k.is P c Wg Im Ss d g):k.is P c Wg lr OF d g:=by
 cases k with
 |work j hh V=>obtain⟨a,b,S,e,f⟩:=hk;exact⟨a,b,S,hS _ _ e,f⟩
 |ou j hh V V' g0 v z=>obtain⟨a,b,c,d,sp,S,B,e,f⟩:=hk;exact⟨a,b,c,d,sp,S,B,hS _ _ e,f⟩
 |gone q=>exact hk
 |add n=>exact hk
 |load n=>exact hk
 |store n=>exact hk
 |mT n=>exact hk
 |head k n=>cases h
 |mB k n=>cases h
 |said n=>cases h
 |iE n=>cases h
 |last n=>cases h
 |acq n=>cases h
 |look n=>cases h
 |close n=>cases h
theorem Inv.spawn(h:Inv P n0 W0 V gs w t K Im ic (some p) st)(aH:p.recv=false)(gY:V.deaf=0){g' child:SG}{x y:Wc}(hx:x.g=0/\x.act=.go gs.size)(hy:y.g=gs.size/\y.act=.start){V':View}{p':Phase}{lr:cE}{lc:Nat}{k':GS}(hc:p'.c=p.c)(zX:p'.Wg=p.Wg)
  (qH:mZ V' V) (uN:V'.deaf=V.deaf) (qR:(k'.view lr).ab=V.ab) (hvo:(k'.view lr).own=λ_=>none) (hSs:∀(j:Nat) S,p.Ss[j]?=some S->p'.Ss[j]?=some S) (CB:k'.is P p.c p.Wg lr p'.Ss 0 child)
  (kE:∀i,i<gs.size->jp p' (gs.size+1) lc (upd K gs.size k') i->jp p gs.size ic K i) (gw:lc=ic\/lc=gs.size)
  (CW:zp P n0 V' ((gs.setIfInBounds 0 g').push child) w (t++#[x,y]) (upd K gs.size k') lr lc (some p') (some .early)):
  Inv P n0 W0 V' ((gs.setIfInBounds 0 g').push child) w (t++#[x,y]) (upd K gs.size k') lr lc (some p') (some .early):=by
 obtain⟨du,ik,ni,hO⟩:=h.out;obtain⟨a1,a2,a3,a4,a5,a6,a7,a8,a9,b8⟩:=hO;rw[if_neg (by rw[aH];simp)]at b8;obtain⟨c1,c2,c3,c4,c5,c6⟩:=b8;have aY:((gs.setIfInBounds 0 g').push child).size=gs.size+1:=by simp
 have jS:=adx hx.2 hy.2;have bC:∀i,US (t++#[x,y]) i=US t i:=λi=>Deaf_still λop ay=>(jS op ay).2.1;have CX:=h.pos;have aP:US t 0=0:=by rw[h.d0,gY]
 have aZ:∀i,0<i->(K i).nK=false:=λi hi=>by
  cases e:(K i).nK with
  |false=>rfl
  |true=>have:=h.sD hi e;omega
 have ajI:nE (some p) gs.size ic K 0:=by
  show jp p gs.size ic K 0;unfold jp;rw[if_neg (by rw[aH];simp)];exact .inl rfl
 have ya:=ik.spawn (act':=nE (some p') (gs.size+1) lc (upd K gs.size k')) (lc:=lc) CX aP hx hy (U:=k'.view lr) (by rw[ln];exact qR) hvo (λi hi=>by
   by_cases fL:i<gs.size
   ·exact .inl (kE i fL hi)
   ·refine .inr ⟨?_,ajI⟩;have cu:jp p' (gs.size+1) lc (upd K gs.size k') i:=hi;unfold jp at cu;split at cu<;>omega) (gw.imp id λe=>⟨e,c2⟩)
 have aj7:=(ya.less (i:=0) (V':=V') (by omega) (by rw[ba _ _ (by omega),ln];exact qH)).congr (EC:=bJ V' lr (upd K gs.size k')) λi hi=>by
  by_cases eQ:i=0
  ·subst eQ;rw[bB];simp[bJ]
  ·rw[ba _ _ eQ];by_cases fL:i=gs.size
   ·subst fL;rw[bB];simp[bJ,eQ,bB]
   ·rw[ba _ _ fL];simp only[bJ,eQ,if_false,ba _ _ fL];exact GS.adH (aZ i (by omega)) _ _
 refine Inv.mk' (by omega) (by rw[ba _ _ (by omega)];exact h.k0) (by rw[bC,uN];exact h.d0) (λi z hi hz=> ?_) ?_ ?_ CW
 ·rw[bC];show (upd K gs.size k' i).is P p'.c p'.Wg lr p'.Ss _ z;rw[hc,zX];by_cases fL:i=gs.size
  ·subst fL;rw[bB,PF ik.ti.gs];have:z=child:=by
    rw[show gs.size=(gs.setIfInBounds 0 g').size by simp]at hz;rw[Array.getElem?_push_size]at hz;exact(Vj hz).symm
   rw[this];exact CB
  ·have att:i<gs.size:=(by have:=(SU.1 hz).1;omega);rw[ba _ _ fL];rw[Xe,if_neg (by simp;omega),SW (by omega)]at hz;exact GS.alS (aZ i hi) hSs (du i z hi hz)
 ·rw[aY];have e:sB (some p')=sB (some p):=by show ry p'.c p'.Wg=ry p.c p.Wg;rw[hc,zX]
  rw[e];exact aj7
 ·have hr:Rest p.Wg t K ic st:=ni;rw[c3]at hr;show Rest p'.Wg _ _ _ _;rw[zX];intro idx a ha hm;have gL:=A_ (λop ay=>(jS op ay).1) ha;obtain⟨op,ay,_⟩:=UT gL;have hlt:=TH ay;rcases hr idx a gL hm with z|⟨z1,z2⟩|⟨s,hs,jU⟩
  ·exact .inl (z.app _)
  ·exact .inr (.inl ⟨z1,λz=>z2 ((Wq hlt).1 z)⟩)
  ·cases hs;obtain⟨i,hg,hi,hz⟩:=jU;have fL:i<gs.size:=by
    obtain⟨op',bc,pO⟩:=Tp.1 hg;rw[<- pO];exact ik.ti.gs op' (XR bc)
   refine .inr (.inr ⟨.early,rfl,i,by rw[g?_old hlt];exact hg,hi,?_⟩);rcases hz with hz|hz|⟨r,hz,hle⟩
   ·exact .inl (by rw[ba _ _ (by omega)];exact hz)
   ·omega
   ·exact .inr (.inr ⟨r,hz.app,hle⟩)
theorem Sat.L8{c:Nat}{a:Nat}{x:Bool}{y z:Nat}{u:Bool}{ER:Array SQ}(h:Sat V w)(hc:w.heap[c]?=some (.chan a ER x y z u))(o:Nat):V.ab c o=none:=by
 cases e:V.ab c o with
 |none=>rfl
 |some v=>have:=h.ab c o v e;simp[Uy,hc]at this
theorem Inv.abm(h:Inv P n0 W0 V gs w t K Im ic (some p) st)(aH:p.recv=false){i:Nat}(hi:0<i):(K i).nK=false:=by
 have hx:=h.phase.2.2.2.2.2.2.2.2.2;rw[if_neg (by rw[aH];simp)]at hx;cases e:(K i).nK with
 |false=>rfl
 |true=>have:=h.sD hi e;have:=hx.2.1;omega
theorem Inv.Fp(h:Inv P n0 W0 V gs w t K Im ic (some p) st)(aH:p.recv=false)(gY:V.deaf=0){g' child:SG}{x y:Wc}(hx:x.g=0/\x.act=.go gs.size)(hy:y.g=gs.size/\y.act=.start){hh:Ht}{sp:Spec}{S:List Spec}(hlen:p.Ss.length<4)(oM:∀o,V.ab p.Wg o=none)
  (CB:lV P hh {ab:=V.ab,own:=λ_=>none,deaf:=0,role:=.work p.c p.Wg (sp::S)} child):
  Inv P n0 W0 {V with role:=.fork p.c p.Wg (p.Ss++[sp::S])} ((gs.setIfInBounds 0 g').push child) w (t++#[x,y]) (upd K gs.size (.work p.Ss.length hh {ab:=V.ab,own:=λ_=>none,deaf:=0,role:=.work p.c p.Wg (sp::S)})) Im ic
   (some {p with Ss:=p.Ss++[sp::S]}) (some .early):=by
 obtain⟨du,ik,ni,hO⟩:=h.out;obtain⟨a1,a2,a3,a4,a5,a6,a7,a8,a9,b8⟩:=hO;rw[if_neg (by rw[aH];simp)]at b8;obtain⟨c1,c2,c3,c4,c5,c6⟩:=b8;have aY:((gs.setIfInBounds 0 g').push child).size=gs.size+1:=by simp
 have cH:Sat V w:=by have:=ik.sat 0 h.pos;rwa [ln]at this
 have Ac:=cH.L8 (cH.own _ _ c1);have dg:∀i j,0<i->i<gs.size->(K i).idx=some j->j<p.Ss.length:=λi j hi hlt e=>by
  have RU:=du i _ hi (SK hlt);have KS:(K i).is P p.c p.Wg Im p.Ss (US t i) gs[i]:=RU;cases lB:K i<;>rw[lB]at e KS<;>simp[GS.idx]at e
  ·subst e;obtain⟨_,_,S,e,_⟩:=KS;exact(SM.1 e).1
  ·subst e;obtain⟨_,_,_,_,_,_,_,e,_⟩:=KS;exact(SM.1 e).1
 refine h.spawn aH gY hx hy rfl rfl ⟨λ_=> .inr rfl,λ_ _=> .inr rfl,λ_ _ _=>rfl⟩ rfl rfl rfl (λj S' e=> ?_) ⟨rfl,CB,sp::S,by simp,rfl⟩ (λi hi kE=> ?_) (.inl rfl) ?_
 ·show (p.Ss++[sp::S])[j]?=some S';rw[SY (SM.1 e).1];exact e
 ·unfold jp at kE⊢;rw[if_neg (by show ¬p.recv=true;rw[aH];simp)]at kE;rw[if_neg (by rw[aH];simp)];rw[ba _ _ (by omega)]at kE;exact kE.imp id λz=>⟨hi,z.2⟩
 ·refine⟨a1,a2,a3,a4,a5,by simp only[SP,Uk,UR];omega,λi hi=> ?_,λi i' j b1 b2 b3 b4 b5 b6=> ?_,λj S' b1 b2=> ?_,?_⟩
  ·by_cases fL:i=gs.size
   ·subst fL;rw[bB];exact⟨rfl,Ac,rfl,oM,λe=>by cases e⟩
   ·rw[ba _ _ fL];exact a7 i hi
  ·rw[aY]at b2 b4;by_cases e1:i=gs.size
   ·by_cases e2:i'=gs.size
    ·omega
    ·rw[ba _ _ e2]at b6;have:=dg i' j b3 (by omega) b6;subst e1;rw[bB]at b5;simp only[GS.idx,Tj]at b5;omega
   ·rw[ba _ _ e1]at b5;by_cases e2:i'=gs.size
    ·have:=dg i j b1 (by omega) b5;subst e2;rw[bB]at b6;simp only[GS.idx,Tj]at b6;omega
    ·rw[ba _ _ e2]at b6;exact a8 i i' j b1 (by omega) b3 (by omega) b5 b6
  ·rw[aY];by_cases hj:j<p.Ss.length
   ·have:p.Ss[j]?=some S':=by
     have IF:(p.Ss++[sp::S])[j]?=some S':=b1;rwa [SY hj]at IF
    obtain⟨i,e1,e2,e3⟩:=a9 j S' this b2;exact⟨i,e1,by omega,by rw[ba _ _ (by omega)];exact e3⟩
   ·have iO:j=p.Ss.length:=by
     have:=(SM.1 (show (p.Ss++[sp::S])[j]?=some S' from b1)).1;simp at this;omega
    exact⟨gs.size,h.pos,by omega,by rw[bB,iO];rfl⟩
  ·show if p.recv=true then _ else _;rw[if_neg (by rw[aH];simp)];refine⟨c1,c2,rfl,λi b1 b2=> ?_,λS' hS'=> ?_,?_⟩
   ·rw[aY]at b2;by_cases fL:i=gs.size
    ·subst fL;rw[bB];exact .inl rfl
    ·rw[ba _ _ fL];exact c4 i b1 (by omega)
   ·rcases SV.1 hS' with z|z
    ·exact c5 S' z
    ·simp at z;subst z;simp
   ·rw[aY,sumTo,bB,SP,<- c6];rw[Vl (g:=λi=>(K i).cnt) λi hi=>by rw[ba _ _ (by omega)]];rfl
theorem Inv.Fo(h:Inv P n0 W0 V gs w t K Im ic (some p) st)(aH:p.recv=false)(gY:V.deaf=0){g' child:SG}{x y:Wc}(hx:x.g=0/\x.act=.go gs.size)(hy:y.g=gs.size/\y.act=.start){n:Nat}
  (zX:V.own p.Wg=some (wgBlock P (((p.Ss.length:Nat):Int)* KK) 0)) (oM:∀o,V.ab p.Wg o=none) (CB:cZ P (eT P V.ab p.c p.Wg 5) n 0 child):
  Inv P n0 W0 {V with own:=λb=>if b=p.c\/b=p.Wg then none else V.own b,role:=.recv p.c p.Wg p.Ss} ((gs.setIfInBounds 0 g').push child) w (t++#[x,y]) (upd K gs.size (.head 5 n)) V.ab gs.size (some {p with recv:=true}) (some .early):=by
 obtain⟨du,ik,ni,hO⟩:=h.out;obtain⟨a1,a2,a3,a4,a5,a6,a7,a8,a9,b8⟩:=hO;rw[if_neg (by rw[aH];simp)]at b8;obtain⟨c1,c2,c3,c4,c5,c6⟩:=b8;have aY:((gs.setIfInBounds 0 g').push child).size=gs.size+1:=by simp
 have cH:Sat V w:=by have:=ik.sat 0 h.pos;rwa [ln]at this
 have Ac:=cH.L8 (cH.own _ _ c1);have CX:=h.pos;refine h.spawn aH gY hx hy rfl rfl ⟨λb=> ?_,λ_ _=> .inr rfl,λ_ _ _=>rfl⟩ rfl rfl rfl (λj S' e=>e) CB (λi hi kE=> ?_) (.inr rfl) ?_
 ·by_cases e:b=p.c\/b=p.Wg
  ·exact .inl (by simp only[e,if_true])
  ·exact .inr (by simp only[e,if_false])
 ·unfold jp at kE⊢;rw[if_pos rfl]at kE;rw[if_neg (by rw[aH];simp)];rw[ba _ _ (by omega)]at kE;obtain⟨z1,_,z2⟩:=kE;rcases c4 i z1 hi with z|⟨q,z⟩
  ·exact .inr ⟨hi,z⟩
  ·exfalso;rw[z]at z2;rcases z2 with z2|z2|z2|z2
   ·cases z2
   ·omega
   ·cases z2
   ·cases z2
 ·refine⟨a1,a2,a3,a4,a5,a6,λi hi=> ?_,λi i' j b1 b2 b3 b4 b5 b6=> ?_,λj S' b1 b2=> ?_,?_⟩
  ·by_cases fL:i=gs.size
   ·subst fL;rw[bB];exact⟨rfl,Ac,rfl,oM,λ_=>rfl⟩
   ·rw[ba _ _ fL,GS.adH (h.abm aH hi) Im];have:=a7 i hi;exact⟨this.1,this.2.1,this.2.2.1,this.2.2.2.1,λe=>by rw[h.abm aH hi]at e;cases e⟩
  ·rw[aY]at b2 b4;by_cases e1:i=gs.size
   ·subst e1;rw[bB]at b5;cases b5
   ·by_cases e2:i'=gs.size
    ·subst e2;rw[bB]at b6;cases b6
    ·rw[ba _ _ e1]at b5;rw[ba _ _ e2]at b6;exact a8 i i' j b1 (by omega) b3 (by omega) b5 b6
  ·obtain⟨i,e1,e2,e3⟩:=a9 j S' b1 b2;exact⟨i,e1,by omega,by rw[ba _ _ (by omega)];exact e3⟩
  ·show if true=true then _ else _;rw[if_pos rfl];refine⟨⟨by simp,Ac,by simp,oM⟩,by omega,by rw[aY];omega,.early,rfl,?_⟩;rw[aY];have e1:sumTo (gs.size+1) (λi=>(upd K gs.size (.head 5 n) i).cnt)=p.Ss.length:=by
    rw[sumTo,bB,<- c6];rw[Vl (g:=λi=>(K i).cnt) λi hi=>by rw[ba _ _ (by omega)]];rfl
   have e2:sumTo (gs.size+1) (λi=>(upd K gs.size (.head 5 n) i).late)=0:=by
    have hz:∀N,sumTo N (λ_=>0)=0:=λN=>(by induction N with|zero=>rfl|succ N ih=>simp[sumTo,ih]);rw[sumTo,bB];rw[Vl (g:=λ_=>0) λi hi=> ?_,hz]
    ·rfl
    ·rw[ba _ _ (by omega)];rcases UH i with rfl|eQ
     ·rw[h.k0];rfl
     ·rcases c4 i eQ hi with z|⟨q,z⟩
      ·cases lB:K i<;>rw[lB]at z<;>first|rfl|cases z
      ·rw[z];rfl
   unfold Mode;simp only[e1,e2,bB];exact .inl ⟨⟨0,cH.own _ _ c1⟩,trivial,trivial,a6,cH.own _ _ zX,.inl ⟨5,rfl,by omega⟩⟩
theorem Inv.begin(h:Inv P n0 W0 V gs w t K Im ic none st){c Wg:Nat}(aG:c≠Wg)(hc:V.own c=some (.chan 0 #[] false 0 0 false)) (hW:V.own Wg≠none) (oM:∀o,V.ab Wg o=none):
  Inv P n0 W0 {V with role:=.fork c Wg []} gs w t (λi=>if i<gs.size then K i else .gone 0) Im 0 (some ⟨c,Wg,[],false⟩) (some .early):=by
 obtain⟨du,ik,ni,hO⟩:=h.out;have cH:Sat V w:=by have:=ik.sat 0 h.pos;rwa [ln]at this
 have Ac:=cH.L8 (cH.own _ _ hc);have tG:∀i,(∃q,(if i<gs.size then K i else .gone 0)=GS.gone q):=λi=>by
  by_cases hi:i<gs.size
  ·rw[if_pos hi];rcases UH i with rfl|eQ
   ·exact⟨0,h.k0⟩
   ·obtain⟨q,hq,_⟩:=du i _ eQ (SK hi);exact⟨q,hq⟩
  ·rw[if_neg hi];exact⟨0,rfl⟩
 have iH:∀{b x},V.own b=some x->n0<=b/\b<w.heap.size:=λ{b x} e=>by
  refine⟨?_,cH.lt e⟩;apply Nat.le_of_not_lt;intro hb;have:=ik.jD 0 h.pos b hb;rw[ln,e]at this;cases this
 obtain⟨xW,hxW⟩:∃x,V.own Wg=some x:=by cases e:V.own Wg with|none=>exact absurd e hW|some x=>exact⟨x,rfl⟩
 have mK:∀i,0<i->((if i<gs.size then K i else .gone 0).view Im)=noView:=λi _=>by obtain⟨q,e⟩:=tG i;rw[e];rfl
 refine Inv.mk' h.pos (by rw[if_pos h.pos];exact h.k0) h.d0 (λi x hi hx=> ?_) ?_ ?_ ?_
 ·have hlt:i<gs.size:=(SU.1 hx).1;obtain⟨q,hq,hy⟩:=du i x hi hx;show (if i<gs.size then K i else .gone 0).is P c Wg Im [] _ x;rw[if_pos hlt,hq];exact hy
 ·have bi:Core (bJ {V with role:=.fork c Wg []} Im (λi=>if i<gs.size then K i else .gone 0)) gs.size w t (sB none) (nE none gs.size ic K) ic n0 W0:=by
   refine(ik.role (i:=0) (V':={V with role:=.fork c Wg []}) h.pos (by rw[ln]) (by rw[ln])).congr λi hi=> ?_;by_cases eQ:i=0
   ·subst eQ;rw[bB];simp[bJ]
   ·rw[ba _ _ eQ];simp[bJ,eQ,hi]
  refine⟨bi.sat,bi.dV,?_,bi.tape,bi.os,bi.out,bi.old,bi.jD,bi.n0⟩;refine bi.ti.weaken (SR _) (λi l _ x=> .inl ⟨x.1,x.2.1,λz=>z.elim⟩) (λi l _ x=>⟨x.1,x.2.1,λz=>z.elim⟩) (λidx a ha ee=> ?_);have hk:Wm t 0 idx:=by
   have yx:j5 V a.loc:=by
    have Ax:ry c Wg a.loc:=ee;cases hl:a.loc with
    |cell ad=>rw[hl]at Ax;have e:ad.block=Wg:=Ax;exact⟨by rw[e];exact hW,by rw[e];exact oM _⟩
    |obj r=>rw[hl]at Ax;have e:r=c:=Ax;show V.own r≠none;rw[e,hc];simp
    |_=>rw[hl]at Ax;exact Ax.elim
   exact ik.ti.kw 0 h.pos a.loc ⟨h.pos,by rw[ln];exact yx,λz=>z.elim⟩ idx a ha rfl
  refine⟨λ_ i hi=> ?_,λ_=>hk⟩;have cu:jp ⟨c,Wg,[],false⟩ gs.size 0 (λi=>if i<gs.size then K i else .gone 0) i:=hi;unfold jp at cu;rw[if_neg (by simp)]at cu;rcases cu with rfl|⟨_,e⟩
  ·exact hk
  ·obtain⟨q,eq⟩:=tG i;simp only[eq]at e;cases e
 ·have aR:st=none:=hO;intro idx a ha hm;rcases ni idx a ha hm with z|z|⟨s,e,_⟩
  ·exact .inl z
  ·exact .inr (.inl z)
  ·rw[aR]at e;cases e
 ·refine⟨(iH hc).1,(iH hxW).1,aG,(iH hc).2,(iH hxW).2,by simp,λi hi=> ?_,λi i' j _ _ _ _ b5=> ?_,λj S b1=>by simp at b1,?_⟩
  ·rw[mK i hi];exact⟨rfl,λ_=>rfl,rfl,λ_=>rfl,λe=>by obtain⟨q,eq⟩:=tG i;simp only[eq]at e;cases e⟩
  ·obtain⟨q,eq⟩:=tG i;simp only[eq]at b5;cases b5
  ·show if false=true then _ else _;rw[if_neg (by simp)];refine⟨hc,rfl,rfl,λi _ _=> .inr (tG i),by simp,?_⟩;have hz:∀N,sumTo N (λ_=>0)=0:=λN=>(by induction N with|zero=>rfl|succ N ih=>simp[sumTo,ih]);rw[Vl (g:=λ_=>0) λi _=>by obtain⟨q,eq⟩:=tG i;show (if i<gs.size then K i else GS.gone 0).cnt=0;rw[eq];rfl];exact hz _
theorem Inv.aqu(h:Inv P n0 W0 V gs w t K Im ic (some p) st)(aH:p.recv=true)(gY:V.deaf=0){g0 g':SG}{n:Nat}(aZ:w.heap[p.c]?=some (.chan 0 #[] true n n false)) {y:Wc} (hy:y.g=0/\y.act=.recvClosed p.c):
  (∀S∈p.Ss,S=[])/\Inv P n0 W0 {V with role:=.plain} (gs.setIfInBounds 0 g') w (t++#[y]) K Im ic none none:=by
 obtain⟨du,ik,ni,hO⟩:=h.out;obtain⟨a1,a2,a3,a4,a5,a6,a7,a8,a9,b8⟩:=hO;rw[if_pos aH]at b8;obtain⟨c1,c2,c3,s,c4,c5⟩:=b8;have yj:(∃pp n,s=.shut pp/\t.act? pp=some (.close p.c)/\t.heard pp/\w.heap[p.c]?=some (.chan 0 #[] true n n false))/\(sumTo gs.size λi=>(K i).late)=0/\(sumTo gs.size λi=>(K i).cnt)=0/\(K ic).shape=.gone 0:=by
  have no:¬∃n,w.heap[p.c]?=some (.chan 0 #[] false n n false):=λ⟨m,e⟩=>by rw[aZ]at e;simp at e
  unfold Mode at c5;rcases c5 with m|m|m|m|m|m|m
  ·exact absurd m.1 no
  ·exact absurd m.1 no
  ·exact absurd m.1 no
  ·exact absurd m.1 no
  ·exact absurd m.1 no
  ·exact absurd m.1 no
  ·exact m
 obtain⟨⟨pp,n',rfl,m1,m2,_⟩,m3,m4,m5⟩:=yj;have tG:∀i,i<gs.size->∃q,K i=.gone q:=λi hi=>by
  have e1:(K i).cnt<=sumTo gs.size λi=>(K i).cnt:=WB (f:=λi=>(K i).cnt) hi;have e2:(K i).late<=sumTo gs.size λi=>(K i).late:=WB (f:=λi=>(K i).late) hi;rcases UH i with rfl|eQ
  ·exact⟨0,h.k0⟩
  ·have hc:=h.sD (i:=i) eQ;have z1:(K i).cnt=0:=(by omega);have z2:(K i).late=0:=(by omega);clear e1 e2;cases lB:K i<;>rw[lB]at z1 z2 hc<;>first
    |exact⟨_,rfl⟩
    |(exfalso;simp[GS.cnt]at z1;done)
    |(exfalso;simp[GS.late]at z2;done)
    |(exfalso;have:=hc rfl;subst this;rw[lB]at m5;cases m5)
 have bV:jI p V:=⟨c1.1,c1.2.1,c1.2.2.1,c1.2.2.2⟩;have aP:US t 0=0:=by rw[h.d0,gY]
 have n_:∀op∈(#[y]:Un),op.act.touch?=none/\still op.act/\op.act.low w.heap.size/\(∀a,op.act≠ .mark (.release a))/\op.g=0:=by
  intro op ay;simp only[TJ,SL,S0,or_false]at ay;subst ay;rw[hy.2];exact⟨rfl,⟨by simp,by simp⟩,a4,by simp,hy.1⟩
 have bC:∀i,US (t++#[y]) i=US t i:=λi=>Deaf_still λop ay=>(n_ op ay).2.1;have aY:(gs.setIfInBounds 0 g').size=gs.size:=by simp
 refine⟨λS hS=> ?_,?_⟩
 ·obtain⟨j,hj⟩:=UQ.1 hS;apply Ts;intro aG;obtain⟨i,e1,e2,e3⟩:=a9 j S hj aG;obtain⟨q,e⟩:=tG i e2;rw[e]at e3;cases e3
 ·refine Inv.mk' (by rw[aY];exact h.pos) h.k0 (by rw[bC];exact h.d0) (λi x hi hx=> ?_) ?_ ?_ rfl
  ·rw[SW (by omega)]at hx;have hlt:i<gs.size:=(SU.1 hx).1;obtain⟨q,e⟩:=tG i hlt;have hk:(K i).is P p.c p.Wg Im p.Ss (US t i) x:=du i x hi hx;rw[e]at hk;rw[bC];exact⟨q,e,hk⟩
  ·rw[aY];have h1:=(ik.role (i:=0) (V':={V with role:=.plain}) h.pos (by rw[ln]) (by rw[ln])).congr (EC:=bJ {V with role:=.plain} Im K) λi hi=>by
    by_cases eQ:i=0
    ·subst eQ;rw[bB];simp[bJ]
    ·rw[ba _ _ eQ];simp[bJ,eQ]
   have abq:∀i l,i<gs.size->ig (bJ {V with role:=.plain} Im K i) l->¬ry p.c p.Wg l:=λi l hi hl=>by
    by_cases eQ:i=0
    ·subst eQ;have b':jI p (bJ {V with role:=.plain} Im K 0):=(by simp only[bJ,if_true];exact bV);exact b'.AJ hl
    ·obtain⟨q,e⟩:=tG i hi;have:bJ {V with role:=.plain} Im K i=noView:=(by simp only[bJ,eQ,if_false,e];rfl);rw[this]at hl;exact af7.AJ hl
   refine⟨h1.sat,h1.dV,?_,h1.tape,h1.os,h1.out,h1.old,h1.jD,h1.n0⟩;have wH:=h1.ti.mute (u:=#[y]) (N':=gs.size) (rd':=λi l=>i<gs.size/\ig (bJ {V with role:=.plain} Im K i) l/\¬sB none l) (wr':=λi l=>i<gs.size/\j5 (bJ {V with role:=.plain} Im K i) l/\¬sB none l) (act':=nE (some p) gs.size ic K) (lc:=ic)
    (λop ay=>(n_ op ay).1) (λop ay=>(n_ op ay).2.2.1) (λop ay=>by rw[(n_ op ay).2.2.2.2];exact h.pos) (SR _) (λop ay=>(n_ op ay).2.2.2.1)
    (λi hi l hl idx a ha gZ hw=>(h1.ti.kr i hi l ⟨hl.1,hl.2.1,abq i l hi hl.2.1⟩ idx a ha gZ hw).app _) (λi hi l hl idx a ha gZ=>(h1.ti.kw i hi l ⟨hl.1,hl.2.1,abq i l hi hl.2.1.rd⟩ idx a ha gZ).app _)
    (λidx a ha ee=>⟨λhp i hi=>((h1.ti.sp idx a ha ee).1 hp i hi).app _,λhp=>((h1.ti.sp idx a ha ee).2 hp).app _⟩)
   exact wH.weaken (SR _) (λ_ _ _ x=> .inl x) (λ_ _ _ x=>x) (λidx a _ hx=>hx.elim)
  ·have hr:Rest p.Wg t K ic st:=ni;rw[c4]at hr;intro idx a ha hm;have gL:=A_ (λop ay=>(n_ op ay).1) ha;obtain⟨op,ay,_⟩:=UT gL;rcases hr idx a gL hm with z|⟨z1,z2⟩|⟨s,hs,hx⟩
   ·exact .inl (z.app _)
   ·exact .inr (.inl ⟨z1,λz=>z2 ((Wq (TH ay)).1 z)⟩)
   ·cases hs;exact .inl (agz m1 m2 hy aP hx)
theorem Inv.am9(h:Inv P n0 W0 V gs w t K Im ic (some p) st)(aH:p.recv=true)(x:SG):Inv P n0 W0 V (gs.setIfInBounds 0 x) w t K Im ic (some p) st:=by
 obtain⟨du,ik,ni,hO⟩:=h.out;obtain⟨a1,a2,a3,a4,a5,a6,a7,a8,a9,b8⟩:=hO;have aY:(gs.setIfInBounds 0 x).size=gs.size:=by simp
 rw[if_pos aH]at b8;obtain⟨c1,c2,c3,s,c4,c5⟩:=b8;refine Inv.mk' (by rw[aY];exact h.pos) h.k0 h.d0 (λi z hi hz=> ?_) (by rw[aY];exact ik) ni ⟨a1,a2,a3,a4,a5,a6,a7,by rw[aY];exact a8,by rw[aY];exact a9,?_⟩
 ·rw[SW (by omega)]at hz;exact du i z hi hz
 ·rw[if_pos aH];refine⟨c1,c2,by rw[aY];exact c3,s,c4,?_⟩;rw[aY];have e0:t=t++#[]:=by simp
  rw[e0];exact c5.keep (λ_=>rfl) rfl rfl λr6 g hg=>by rw[SW (by omega)]at hg;exact r6 g hg
end
def MJ (P:SJ)(Post:SQ->To->Prop)(n0:Nat)(W0:To)(V:View)(g:SG):Prop:=
 g.status=.running/\∀gs w sl t K Im ic ph st,Inv P n0 W0 V gs w t K Im ic ph st->vN V.role ph->kR gs g->Ok P Post (crowd gs w sl) t
section
variable {P:SJ}{Post:SQ->To->Prop}{n0:Nat}{W0:To}
def ad7 (P:SJ)(Post:SQ->To->Prop)(gs:Array SG)(w:To)(sl:Option (Nat×Nat))(t:Un):Prop:=
 (∃m' ops,runT P (crowd gs w sl) 0=(.next m',ops)/\Ok P Post m' (t++ops))\/∃o w' ops,runT P (crowd gs w sl) 0=(.ended o w',ops)/\∀w0 D2,WV P Post (crowd gs w0 D2) o w' (t++ops)
theorem kR.pos{gs:Array SG}{g:SG}(h:kR gs g):∃(i:Nat)(x:SG),gs[i]?=some x/\x.status=.running:=by
 obtain⟨g0,h0,h1,_⟩:=h;exact⟨0,g0,h0,h1⟩
theorem MJ.iW{V:View}{g:SG}(hg:g.status=.running)(own:∀gs w sl t K Im ic ph st,Inv P n0 W0 V gs w t K Im ic ph st->vN V.role ph->kR gs g->ad7 P Post gs w sl t):MJ P Post n0 W0 V g:=by
 refine⟨hg,λgs w sl t K Im ic ph st h hr hm=> ?_⟩;generalize hN:gs.size=N;generalize hμ:((λj=>(K j).di),flag gs ic)=μ;induction μ using(abh N).induction generalizing gs w sl t K st with
 |_ μ ih=>
  obtain⟨i,gi,d,o5,aL,bO,aR⟩:=ZU (P:=P) (w:=w) (sl:=sl) (h.awake (.inl hm)) hm.pos;have hd:=h.draw d;rcases UH i with rfl|hi
  ·rcases own _ _ o5 _ _ _ _ _ _ hd hr hm with⟨m',ops,h1,h2⟩|⟨o,w',ops,h1,h2⟩
   ·exact Ok.step (aR.trans h1) h2
   ·exact Ok.end (aR.trans h1) (h2 w sl)
  ·rcases hd.other (sl:=o5) (.inl hm) hi aL bO with⟨gs',w',ops,K',st',h1,h2,h3,h4,_,h5⟩|⟨p,_,_,jx⟩
   ·have pM:kR gs' g:=by
     cases ph with
     |none=>exact(h4 g 0 (by simp)).1 hm
     |some p=>exact(h4 g p.c (λq hq=>by cases hq;rfl)).1 hm
    exact Ok.step (aR.trans h1) (ih _ (by rw[<- hμ,<- hN];exact h5) gs' w' o5 _ K' st' h3 pM (by rw[h2,hN]) rfl)
   ·obtain⟨g0,h0,hs,_⟩:=hm;obtain⟨g1,z,h1,_⟩:=jx;rw[h1]at h0;cases h0;cases hs
theorem MJ.recv{V:View}{g:SG}{c Wg:Nat}{Ss:List (List Spec)}{z:SQ}(jz:V.role=.recv c Wg Ss)(gY:V.deaf=0)(hg:g.status=.running)
  (lJ:∀w,Sat V w->stepG P true g w=.comm g #[rcase c z] true (.recv true) w #[])
  (J1:∀(i:Nat) sp S v Im Ow,Ss[i]?=some (sp::S)->sp v Im Ow->(∀b,V.own b≠none->Ow b=none)->(∀b o,V.own b≠none->Im b o≠none->V.ab b o≠none)->(∃w,Sat V w/\(∀b o x,Im b o=some x->w.cell? ⟨b,o,none⟩=some x)/\∀b x,Ow b=some x->w.heap[b]?=some x)->
   MJ P Post n0 W0 (og V Im Ow (.recv c Wg (Ss.set i S))) (T6 g (.tuple #[v,.bool true])))
  (J2:(∀S∈Ss,S=[])->MJ P Post n0 W0 {V with role:=.plain} (T6 g (.tuple #[z,.bool false]))):MJ P Post n0 W0 V g:=by
 have met:∀{gs w sl t K Im ic st i},Inv P n0 W0 V gs w t K Im ic (some ⟨c,Wg,Ss,true⟩) st->Ez P n0 W0 V gs w sl t Im ic ⟨c,Wg,Ss,true⟩ st g i->∀{m},stepT P m=runT P (crowd gs w sl) i->Ok P Post m t:=by
  rintro gs w sl t K Im ic st i _ ⟨gs',w',ops,K',j,sp,S,v,lr,Ow,h1,h2,h3,h4,h5,h6,h6',h7,h8⟩ m hm
  exact Ok.step (hm.trans h1) ((J1 j sp S v lr Ow h4 h5 h6 h6' h7).2 gs' w' sl _ K' Im ic _ st h8 rfl h3)
 refine⟨hg,λgs w sl t K Im ic ph st h hr hm=> ?_⟩;have hO:ph=some ⟨c,Wg,Ss,true⟩:=by rw[jz]at hr;exact hr
 subst hO
 suffices key:∀N μ gs w sl t K st,Inv P n0 W0 V gs w t K Im ic (some ⟨c,Wg,Ss,true⟩) st->gs.size=N->((λj=>(K j).di),flag gs ic)=μ->(kR gs g\/(oA gs g c/\Calm gs/\zo w c))->Ok P Post (crowd gs w sl) t from key _ _ gs w sl t K st h rfl rfl (.inl hm)
 clear h hr hm;intro N μ;induction μ using(abh N).induction with
 |_ μ ih=>
  have A:∀gs w sl t K st,Inv P n0 W0 V gs w t K Im ic (some ⟨c,Wg,Ss,true⟩) st->gs.size=N->((λj=>(K j).di),flag gs ic)=μ->oA gs g c->Calm gs->zo w c->Ok P Post (crowd gs w sl) t:=by
   intro gs w sl t K st h hN hμ jx tz ho;have rW:kR gs g\/∃p,some (Phase.mk c Wg Ss true)=some p/\p.recv=true/\V.deaf=0/\oA gs g p.c:=.inr ⟨_,rfl,rfl,gY,jx⟩;have alw:∃(i:Nat)(x:SG),gs[i]?=some x/\x.status=.running:=by
    obtain⟨i,x,_,h1,h2⟩:=h.aqy rfl ho tz;exact⟨i,x,h1,h2⟩
   obtain⟨i,gi,d,o5,aL,bO,aR⟩:=ZU (P:=P) (w:=w) (sl:=sl) (h.awake rW) alw;have hd:=h.draw d;have hi:0<i:=by
    rcases UH i with rfl|hi
    ·obtain⟨g1,z1,h1,_⟩:=jx;rw[h1]at aL;cases aL;cases bO
    ·exact hi
   rcases hd.other (sl:=o5) rW hi aL bO with⟨gs',w',ops,K',st',h1,h2,h3,h4,h5,h6⟩|⟨p,hp,uX,_⟩
   ·refine Ok.step (aR.trans h1) (ih _ (by rw[<- hμ,<- hN];exact h6) gs' w' o5 _ K' st' h3 (by rw[h2,hN]) rfl ?_);rcases(h4 g c (λq hq=>by cases hq;rfl)).2 jx ho with x|⟨x,y⟩
    ·exact .inl x
    ·exact .inr ⟨x,h5 g c jx tz,y⟩
   ·cases hp;exact met hd uX aR
  intro gs w sl t K st h hN hμ pM;rcases pM with hm|⟨h1,h2,h3⟩
  ·obtain⟨i,gi,d,o5,aL,bO,aR⟩:=ZU (P:=P) (w:=w) (sl:=sl) (h.awake (.inl hm)) hm.pos;have hd:=h.draw d;rcases UH i with rfl|hi
   ·
    obtain⟨g0,h0,kW,lE,jd,ng⟩:=hm;have fN:Sat V (w.at d):=(by have:=hd.core.sat 0 h.pos;rwa [ln]at this);have lI:stepG P (0==0) g0 (w.at d)=.comm g #[rcase c z] true (.recv true) (w.at d) #[]:=(by rw[<- lJ _ fN];exact W_ lE jd ng _);have e0:(t++Ta 0 g0.frame.fn g0.frame.place #[])=t:=(by simp[Ta]);rcases hd.opens rfl with⟨n,g_⟩|⟨akK,⟨n,aZ⟩,_⟩
    ·by_cases aac:∃i j h' V₁ V₂ g1 v z1,0<i/\i<gs.size/\K i=.ou j h' V₁ V₂ g1 v z1
     ·exact met hd (hd.aps (sl:=o5) rfl gY ⟨g0,h0,kW,lE,jd,ng⟩ (lJ _ fN) aac) aR
     ·have offers:∀m x,0<m->gs[m]?=some x->x.status=.blocked->x.offers=none:=by
       intro m x jg hx hb;rcases GS.runs (show (K m).is P c Wg Im Ss (US t m) x from h.is m x jg hx)with e|⟨e,_⟩|⟨j,h',V1,V2,g1,v,z1,e⟩|⟨_,_,e⟩
       ·rw[e]at hb;cases hb
       ·rw[e]at hb;cases hb
       ·exact absurd ⟨m,j,h',V1,V2,g1,v,z1,jg,(SU.1 hx).1,e⟩ aac
       ·exact e
      have hw:=crowd_waits (P:=P) (sl:=o5) (i:=0) h0 lI (λcc jv=>by
       simp only[TJ,SL,S0,or_false]at jv;subst jv;refine ways_recv_none g_ (partners_nil λm x hx=> ?_);rcases X7 gs 0 m x hx with⟨_,rfl⟩|⟨jg,jU⟩
       ·exact Zl _ _
       ·by_cases hb:x.status=.blocked
        ·unfold offersAt;simp[hb,offers m x (by omega) jU hb]
        ·exact UU hb _ _)
      refine Ok.step (aR.trans hw) ?_;rw[e0];refine A _ (w.at d) o5 t K st (hd.am9 rfl _) (by simp[hN]) ?_ ⟨g,z,?_,rfl,rfl,rfl⟩ (λm x jg hx hb=> ?_) ⟨n,g_⟩
      ·rw[<- hμ];have gw:0<ic:=(by obtain⟨_,_,x,_⟩:=h.mode rfl;exact x);unfold flag;rw[SW (by omega)]
      ·rw[S_ h.pos]
      ·rw[SW (by omega)]at hx;exact offers m x jg hx hb
    ·have hp:partners (gs.setIfInBounds 0 ph) c true=[]:=partners_nil λm x hx=>by
      rcases X7 gs 0 m x hx with⟨_,rfl⟩|⟨jg,jU⟩
      ·exact Zl _ _
      ·have hlt:m<gs.size:=(SU.1 jU).1;rcases GS.runs (show (K m).is P c Wg Im Ss (US t m) x from h.is m x (by omega) jU)with e|⟨e,_⟩|⟨j,h',V1,V2,g1,v,z1,e⟩|⟨_,eb,e⟩
       ·exact UU (by rw[e];simp) _ _
       ·exact UU (by rw[e];simp) _ _
       ·have:=akK m (by omega) hlt;rw[e]at this;cases this
       ·unfold offersAt;simp[eb,e]
     have hw:=crowd_recv_closed (P:=P) (sl:=o5) (i:=0) h0 lI aZ hp;refine Ok.step (aR.trans hw) ?_;rw[Yt,<- Xp,e0];obtain⟨hS,hinv⟩:=hd.aqu rfl gY (g0:=g0) (g':=T6 g (recvd true z false)) aZ (y:={g:=0,fn:=g.frame.fn,pos:=g.frame.place,act:=.recvClosed c}) ⟨rfl,rfl⟩;exact(J2 hS).2 _ (w.at d) o5 _ K Im ic none none hinv rfl ⟨T6 g (recvd true z false),by rw[S_ h.pos],rfl,rfl,rfl,rfl⟩
   ·rcases hd.other (sl:=o5) (.inl hm) hi aL bO with⟨gs',w',ops,K',st',h1,h2,h3,h4,_,h5⟩|⟨p,_,_,jx⟩
    ·exact Ok.step (aR.trans h1) (ih _ (by rw[<- hμ,<- hN];exact h5) gs' w' o5 _ K' st' h3 (by rw[h2,hN]) rfl (.inl ((h4 g c (λq hq=>by cases hq;rfl)).1 hm)))
    ·obtain⟨g0,h0,hs,_⟩:=hm;obtain⟨g1,z1,h1,_⟩:=jx;rw[h1]at h0;cases h0;cases hs
  ·exact A gs w sl t K st h hN hμ h1 h2 h3
theorem anq:Closed true P true (MJ P Post n0 W0)where
 step V g hs h:=by
  refine MJ.iW hs λgs w sl t K Im ic ph st hI hr ⟨g0,h0,kW,lE,jd,ng⟩=> .inl ?_;have fN:Sat V w:=by have:=hI.core.sat 0 hI.pos;rwa [ln]at this
  obtain⟨g',w',es,V',h1,h2,h3⟩:=h w fN;have aR:stepG P (0==0) g0 w=.go g' w' es:=by rw[<- h1];exact W_ lE jd ng w
  refine⟨_,_,runT_crowd_go h0 aR,h3.2 _ w' sl _ K Im ic ph st (hI.aa7 h0 h2 hr) (by rw[h2.role];exact hr) ⟨g',?_,h3.1,rfl,rfl,rfl⟩⟩;rw[S_ (by simpa using hI.pos)]
 ghost V V' g hg h:=⟨h.1,λgs w sl t K Im ic ph st hI hr hm=>h.2 gs w sl t K Im ic ph st (hI.am8 hg hr) (by rw[hg.role];exact hr) hm⟩
 send V g c Wg sp S v z B hr hd hs ho h1 h2 h3:=⟨hs,λgs w sl t K Im ic ph st hI cp hm=>by rw[hr]at cp;exact cp.elim⟩
 done V g c Wg hr hd h1:=⟨h1.1,λgs w sl t K Im ic ph st hI cp hm=>by rw[hr]at cp;exact cp.elim⟩
 slip V g g' c Wg hr hs h1 h2:=⟨hs,λgs w sl t K Im ic ph st hI cp hm=>by rw[hr]at cp;exact cp.elim⟩
 more _:={
  start:=λV g c Wg hr aG hc hW oM h=>⟨h.1,λgs w sl t K Im ic ph st hI cp hm=>by
   rw[hr]at cp;cases cp;exact h.2 gs w sl t _ Im 0 _ _ (hI.begin aG hc hW oM) rfl hm⟩
  Fp:=λV g g' child c Wg Ss sp S hr hd hs hc hW hlen oM aR fx LQ h=>by
   refine MJ.iW hs λgs w sl t K Im ic ph st hI cp ⟨g0,h0,kW,lE,jd,ng⟩=> .inl ?_;rw[hr]at cp;cases cp;have fN:Sat V w:=(by have:=hI.core.sat 0 hI.pos;rwa [ln]at this);have mb:stepG P (0==0) g0 w=.spawn g' child w #[]:=(by rw[<- aR w fN];exact W_ lE jd ng w);obtain⟨hh,hk⟩:=LQ _ (asb P);have bO:=Z_ (P:=P) (sl:=sl) h0 mb;have e0:Ta 0 g0.frame.fn g0.frame.place #[]=#[]:=rfl;rw[e0]at bO;have hinv:=hI.Fp (g':=g') (x:={g:=0,fn:=g0.frame.fn,pos:=g0.frame.place,act:=.go gs.size}) (y:={g:=gs.size,fn:=child.frame.fn,pos:=g0.frame.place,act:=.start}) rfl hd ⟨rfl,rfl⟩ ⟨rfl,rfl⟩ hlen oM hk;exact⟨_,_,bO,h.2 _ w sl _ _ Im ic _ _ hinv rfl ⟨g',by rw[Xe,if_neg (by simp;have:=hI.pos;omega),S_ hI.pos],h.1,rfl,rfl,rfl⟩⟩
  Fo:=λV g g' child c Wg Ss hr hd hs aG hc hW Ac oM aR fx aZ h=>by
   refine MJ.iW hs λgs w sl t K Im ic ph st hI cp ⟨g0,h0,kW,lE,jd,ng⟩=> .inl ?_;rw[hr]at cp;cases cp;have fN:Sat V w:=(by have:=hI.core.sat 0 hI.pos;rwa [ln]at this);have mb:stepG P (0==0) g0 w=.spawn g' child w #[]:=(by rw[<- aR w fN];exact W_ lE jd ng w);obtain⟨n,hk⟩:=aZ;have bO:=Z_ (P:=P) (sl:=sl) h0 mb;have e0:Ta 0 g0.frame.fn g0.frame.place #[]=#[]:=rfl;rw[e0]at bO;have hinv:=hI.Fo (g':=g') (x:={g:=0,fn:=g0.frame.fn,pos:=g0.frame.place,act:=.go gs.size}) (y:={g:=gs.size,fn:=child.frame.fn,pos:=g0.frame.place,act:=.start}) rfl hd ⟨rfl,rfl⟩ ⟨rfl,rfl⟩ hW oM hk;exact⟨_,_,bO,h.2 _ w sl _ _ V.ab gs.size _ _ hinv rfl ⟨g',by rw[Xe,if_neg (by simp;have:=hI.pos;omega),S_ hI.pos],h.1,rfl,rfl,rfl⟩⟩
  recv:=λV g c Wg Ss z hr hd hs ho aR j1 j2=>MJ.recv hr hd hs aR j1 j2}
structure Left (n0:Nat)(W0 w:To):Prop where
 tape:w.tape=W0.tape
 os:w.os=W0.os
 out:w.output=W0.output
 old:∀b,b<n0->w.heap[b]?=W0.heap[b]?
 size:n0<=w.heap.size
theorem Inv.JN{V:View}{gs:Array SG}{w:To}{t:Un}{K:Nat->GS}{Im:cE}{ic:Nat}{st:Option eG}(h:Inv P n0 W0 V gs w t K Im ic none st){v:SQ}(hp:Post v w)(w0:To)(D2:Option (Nat×Nat)):WV P Post (crowd gs w0 D2) (.done v) w t:=by
 obtain⟨du,ik,ni,aR⟩:=h.out;have mb:st=none:=aR;refine⟨v,rfl,hp,ik.ti.nr,?_,⟨?_,rfl⟩,?_⟩
 ·intro i g hg kW ⟨x,hx,hm,hk⟩;rcases ni i x hx hm with⟨q,z,h1,h2,h3⟩|⟨h1,h2⟩|⟨_,h1,_⟩
  ·rcases h3 with rfl|h3
   ·exfalso;simp only[Wz,h1,UO,Tj]at hg;omega
   ·exact⟨q,by simp[Wz,h1,h2],h3⟩
  ·rcases hk with hk|hk
   ·exact absurd h1 hk
   ·exact absurd hk h2
  ·rw[mb]at h1;cases h1
 ·intro g hg;obtain⟨i,hi⟩:=UQ.1 hg;rw[Up]at hi;have cu:gs[1+i]?=some g:=by simpa[crowd]using hi
  obtain⟨q,_,hq⟩:=du (1+i) g (by omega) cu;exact⟨q,hq.leaves⟩
 ·intro i g hi eQ;obtain⟨q,_,hq⟩:=du i g (by omega) hi;exact⟨q,hq.hears _⟩
theorem MJ.end{V:View}{g:SG}(hg:g.status=.running)(hr:V.role=.plain)
  (h:∀w,Sat V w->Left n0 W0 w->(∀b,b<n0->V.own b=none)->∃v w' es V',stepG P true g w=.ended (.done v) w' es/\dq V w V' w' es/\Post v w'):MJ P Post n0 W0 V g:=by
 refine MJ.iW hg λgs w sl t K Im ic ph st hI cp ⟨g0,h0,kW,lE,jd,ng⟩=> .inr ?_;have ik:=hI.out.2.1;have fN:Sat V w:=by have:=hI.core.sat 0 hI.pos;rwa [ln]at this
 obtain⟨v,w',es,V',h1,h2,h3⟩:=h w fN ⟨ik.tape,ik.os,ik.out,ik.old,ik.n0⟩ (λb hb=>by have:=ik.jD 0 hI.pos b hb;rwa [ln]at this);have aR:stepG P (0==0) g0 w=.ended (.done v) w' es:=by rw[<- h1];exact W_ lE jd ng w
 refine⟨_,w',_,runT_crowd_ended h0 aR,λw0 D2=> ?_⟩;have hO:ph=none:=by rw[hr]at cp;exact cp
 subst hO;have hinv:=hI.aa7 (g':=g0) h0 h2 cp;have tF:=hinv.JN (Post:=Post) h3 w0 D2;obtain⟨v',e,hp,hn,hh,hl,hd⟩:=tF;refine⟨v',e,hp,hn,hh,⟨?_,rfl⟩,?_⟩
 ·intro g KE;obtain⟨i,hi⟩:=UQ.1 KE;rw[Up]at hi;have cu:gs[1+i]?=some g:=by simpa[crowd]using hi
  obtain⟨q,_,hq⟩:=hI.out.1 (1+i) g (by omega) cu;exact⟨q,hq.leaves⟩
 ·intro i g hi eQ;obtain⟨q,_,hq⟩:=hI.out.1 i g (by omega) hi;refine⟨q,?_⟩;have:(t++Ta 0 g0.frame.fn g0.frame.place es).deaf i (t++Ta 0 g0.frame.fn g0.frame.place es).size=US t i:=
   at1 t (g:=i) (g':=0) (by omega) _ λop ay=>by obtain⟨e,_,rfl⟩:=TL ay;rfl
  rw[this];exact hq.hears _
theorem Inv.init(W:To){V:View}(ho:V.own=λ_=>none)(hd:V.deaf=0)(hs:Sat V W)(g:SG):Inv P W.heap.size W V #[g] W #[] (λ_=> .gone 0) V.ab 0 none none:=by
 have fM:∀i,i<(1:Nat)->bJ V V.ab (λ_=> .gone 0) i=V:=λi hi=>by
  obtain rfl:i=0:=by omega
  simp[bJ]
 refine Inv.mk' (by simp) rfl (by rw[hd];rfl) (λi x hi hx=> ?_) ⟨λi hi=>by rw[fM i hi];exact hs,λi j hi hj kI=> ?_,?_,rfl,rfl,rfl,λ_ _=>rfl,λi hi b _=>by rw[fM i hi,ho],SR _⟩ ?_ rfl
 ·exfalso;have:=(SU.1 hx).1;simp at this;omega
 ·simp at hi hj;omega
 ·refine⟨λsaid hr=> ?_,by simp,by simp,by simp,λi _ l _ idx a ha=> ?_,λi _ l _ idx a ha=> ?_,λidx a ha=> ?_⟩
  ·obtain⟨i,j,_,⟨a,b,ha,_⟩,_⟩:=hr;obtain⟨op,ay,_⟩:=UT ha;simp at ay
  ·obtain⟨op,ay,_⟩:=UT ha;simp at ay
  ·obtain⟨op,ay,_⟩:=UT ha;simp at ay
  ·obtain⟨op,ay,_⟩:=UT ha;simp at ay
 ·intro idx a ha _;obtain⟨op,ay,_⟩:=UT ha;simp at ay
theorem ajv{f:TO}{args:Array SQ}{W:To}{V:View}{R:Out->View->Prop}(hi:P.inits.idxOf? f=none)(ho:V.own=λ_=>none)(hd:V.deaf=0)(cp:V.role=.plain)(hs:Sat V W)(h:Body true P f args .normal V R)
  (hR:∀o V',R o V'->V'.role=.plain/\∃v,o=.ret v/\∀w,Sat V' w->Left W.heap.size W w->Post v w):
  ∃M last o w' t',runNT P (M+1) (solo (G (Frame.enter P f args .normal) []) W) #[]=(.ended o w',t')/\runN P M (solo (G (Frame.enter P f args .normal) []) W)=.next last/\step P last=.ended o w'/\WV P Post last o w' t':=by
 have hJ:MJ P Post W.heap.size W V (G (Frame.enter P f args .normal) []):=by
  refine h true _ anq [] λo V' fr r hl=> ?_;obtain⟨hr,v,rfl,hp⟩:=hR _ _ r;obtain⟨rfl,bC,hk,fn,hf,hm,gQ⟩:=hl;refine MJ.end rfl hr λw hw Am hold=> ?_;obtain⟨es,w',aT,h1,h2,h3⟩:=gQ.runs hw;rcases h3 with⟨x,h3,rfl,rfl⟩|⟨_,_,hx⟩
  ·refine⟨x,w',seen P fr.fn es,aT,by simp[G,stepG,unwind,doReturn,hm,bC,hk,hf,h3,h2,T5,hi],h1.seen P fr.fn,?_⟩;refine hp w' h1.sat ⟨h1.tape.trans Am.tape,h1.os.trans Am.os,h1.output.trans Am.out,λb hb=> ?_,UL Am.size h1.size⟩;rw[h1.frame b (Tc hb Am.size) (hold b hb)];exact Am.old b hb
  ·exact hx.elim
 exact hJ.2 #[_] W none #[] _ _ _ none none (Inv.init W ho hd hs _) (by rw[cp];rfl) ⟨_,rfl,rfl,rfl,rfl,rfl⟩
end
def gR (P:SJ)(main:Bool)(g:SG):SG:=match stepG P main g default with
 |.go g' _ _=>g'
 |_=>g
def AK (P:SJ)(main:Bool)(g:SG):Array Ur:=match stepG P main g default with
 |.go _ _ es=>es
 |_=>#[]
def cJ (P:SJ)(main:Bool):Nat->SG->SG
 |0,g=>g
 |n+1,g=>cJ P main n (gR P main g)
def gp (P:SJ)(main:Bool)(w:To):Nat->SG->List ZB
 |0,_=>[]
 |n+1,g=>stepG P main g w::gp P main w n (gR P main g)
def fV (P:SJ)(main:Bool)(w:To):Nat->SG->List ZB
 |0,_=>[]
 |n+1,g=> .go (gR P main g) w (AK P main g)::fV P main w n (gR P main g)
def bR (g:SG):Bool:=match g.status with
 |.running=>true
 |_=>false
theorem bR.out{g:SG}(h:bR g=true):g.status=.running:=by
 unfold bR at h;split at h
 ·assumption
 ·cases h
def jk (P:SJ)(main:Bool):Nat->SG->Bool
 |0,_=>true
 |n+1,g=>bR g&&(AK P main g).all WF&&jk P main n (gR P main g)
def oZ (P:SJ)(main:Bool):Nat->SG->Bool
 |0,_=>true
 |n+1,g=>bR g&&(AK P main g).isEmpty&&oZ P main n (gR P main g)
def j9 (P:SJ)(main:Bool):Nat->Nat->SG->Nat
 |0,d,_=>d
 |n+1,d,g=>j9 P main n (deafBehind d (AK P main g)) (gR P main g)
section
variable {P:SJ}
theorem MQ{n:Nat}{main:Bool}{g:SG}(h:jk P main (n+1) g=true):g.status=.running/\(∀e∈AK P main g,WF e=true)/\jk P main n (gR P main g)=true:=by
 simp only[jk,Ti]at h;exact⟨bR.out h.1.1,λe he=>UJ.1 h.1.2 e he,h.2⟩
theorem w7{Stop:Nat->SG->Prop}:∀(n d:Nat)(g:SG),(∀w,gp P false w n g=fV P false w n g)->jk P false n g=true->(∃m,cZ P Stop m (j9 P false n d g) (cJ P false n g))->∃m,cZ P Stop m d g
 |0,d,g,_,_,hs=>hs
 |n+1,d,g,h,hm,hs=>by
  obtain⟨h1,h2,h3⟩:=MQ hm;obtain⟨m,hm⟩:=w7 n _ (gR P false g) (λw=>(Vx (h w)).2) h3 hs;exact⟨m+1,.inr ⟨h1,_,_,h2,λw=>(Vx (h w)).1,hm⟩⟩
theorem acR{Wg:Nat}{Stop:Nat->SG->Prop}:∀(n d:Nat)(g:SG),(∀w,gp P false w n g=fV P false w n g)->jk P false n g=true->(∃m,iB P Wg Stop m (j9 P false n d g) (cJ P false n g))->∃m,iB P Wg Stop m d g
 |0,d,g,_,_,hs=>hs
 |n+1,d,g,h,hm,hs=>by
  obtain⟨h1,h2,h3⟩:=MQ hm;obtain⟨m,hm⟩:=acR n _ (gR P false g) (λw=>(Vx (h w)).2) h3 hs;exact⟨m+1,.inr ⟨h1,_,_,h2,λw _ _ _=>(Vx (h w)).1,hm⟩⟩
theorem acS{Wg:Nat}{Stop:Nat->SG->Prop}{d:Nat}{g g':SG}(hr:g.status=.running)(h:∀w x y,WgAt P Wg w x y->stepG P false g w=.go g' w #[]) (hs:∃m,iB P Wg Stop m d g'):∃m,iB P Wg Stop m d g:=by
 obtain⟨m,hm⟩:=hs;exact⟨m+1,.inr ⟨hr,g',#[],by simp,h,by simpa[deafBehind]using hm⟩⟩
theorem Ho:∀(n d:Nat)(g:SG),(∀w,gp P false w n g=fV P false w n g)->jk P false n g=true->(∃q,Y4 P q (j9 P false n d g) (cJ P false n g))->∃q,Y4 P q d g
 |0,d,g,_,_,hs=>hs
 |n+1,d,g,h,hm,hs=>by
  obtain⟨h1,h2,h3⟩:=MQ hm;obtain⟨m,hm⟩:=Ho n _ (gR P false g) (λw=>(Vx (h w)).2) h3 hs;exact⟨m+1,.inr ⟨h1,_,_,h2,λw=>(Vx (h w)).1,hm⟩⟩
theorem Nw{d:Nat}{g:SG}(h:g.status=.finished)(hd:d=0):∃q,Y4 P q d g:=⟨0,h,hd⟩
theorem apn{n:Nat}{main:Bool}{g:SG}(h:oZ P main (n+1) g=true):g.status=.running/\AK P main g=#[]/\oZ P main n (gR P main g)=true:=by
 simp only[oZ,Ti]at h;exact⟨bR.out h.1.1,by simpa using h.1.2,h.2⟩
theorem tV{lv main:Bool}{J:View->SG->Prop}(C:Closed lv P main J){V:View}:∀(n:Nat)(g:SG),(∀w,gp P main w n g=fV P main w n g)->oZ P main n g=true->J V (cJ P main n g)->J V g
 |0,g,_,_,hs=>hs
 |n+1,g,h,hm,hs=>by
  obtain⟨h1,h2,h3⟩:=apn hm;refine C.idle h1 (λw=> ?_) (tV C n (gR P main g) (λw=>(Vx (h w)).2) h3 hs);rw[(Vx (h w)).1,h2]
theorem Closed.mute{lv main:Bool}{J:View->SG->Prop}(C:Closed lv P main J){V:View}{g g':SG}{m:Mark}(hm:m=.disable\/m=.enable)(hr:g.status=.running)(h:∀w,stepG P main g w=.go g' w #[⟨.mark m,false,true⟩]) (hJ:J {V with deaf:=deafBehind V.deaf #[⟨.mark m,false,true⟩]} g'):J V g:=by
 refine C.step _ _ hr λw hw=> ?_;have hs:=aqg (P:=P) (V:=V) (k:=(.pure ():Sem Unit)) (K:=λ_ V'=>V'={V with deaf:=deafBehind V.deaf #[⟨.mark m,false,true⟩]}) (Kp:=λ_ _=>False) hm (cO rfl);obtain⟨es,w',V',k1,k2,k3⟩:=hs.runs hw;rcases k3 with⟨x,k3,rfl⟩|⟨_,_,hx⟩
 ·have e1:Yc () w=Yc x w':=k3;have e2:es=#[⟨.mark m,false,true⟩]:=k2.symm;cases e1;subst e2;refine⟨g',w,_,_,h w,?_,hJ⟩;rwa [tY (by rcases hm with rfl|rfl<;>simp)]at k1
 ·exact hx.elim
def ready (g:SG):Option Tu:=match g with
 |{frame:={fn:=_,tmps,todo:=.inRegion ops (i::_)::_,defers:=_,mode:=.run,kind,roundOf:=none},callers:=_,status:=.running,dying:=none,offers:=none}=>
  match ops[i]?with
  |some o=>if Tg o (yielded ops tmps)&& !(kind== .early)then some o else none
  |none=>none
 |_=>none
def fin (g:SG)(v:SQ):SG:={g with frame:=g.frame.finish v}
theorem ready.out{g:SG}{o:Tu}(h:ready g=some o):∃(b:Uc)(a:Act)(ops:Array Tu)(i:Nat)(rest:List Nat)(k:List WR)(cs:List Uc),g=G (b.at a (.inRegion ops (i::rest)::k)) cs/\ops[i]?=some o/\Tg o (yielded ops a.tmps)=true/\b.kind≠ .early/\a.eval=g.frame.eval/\
  (∀v,G (b.at (a.put o.dst v) (.inRegion ops rest::k)) cs=fin g v)/\b.fn=g.frame.fn/\g.status=.running:=by
 unfold ready at h;split at h
 ·rename_i fn tmps ops i rest k defers kind cs;split at h
  ·rename_i o' ho;split at h
   ·rename_i hw;cases h;simp only[Ti,TZ,beq_eq_false_iff_ne,ne_eq]at hw;refine⟨{(default:Uc)with fn,kind},⟨tmps,defers⟩,ops,i,rest,k,cs,rfl,ho,hw.1,hw.2,?_,λv=> ?_,rfl,rfl⟩
    ·funext x;cases x<;>rfl
    ·unfold fin;have:=Frame.finish_at {(default:Uc)with fn,kind} ⟨tmps,defers⟩ ops i rest k v;rw[ho]at this;simp only[Frame.at,Option.bind_some]at this⊢;rw[this];rfl
   ·cases h
  ·cases h
 ·cases h
def cz (g:SG):Option (TO×Array SQ):=match ready g with
 |some {op:=.call {callee:=.value (.func f),args, .. }, .. }=>some (f,args.map g.frame.eval)
 |_=>none
theorem cz.out{g:SG}{f:TO}{vs:Array SQ}(h:cz g=some (f,vs)):∃o aE my,ready g=some o/\o.op=.call {callee:=.value (.func f),args:=aE,argTypes:=my}/\aE.map g.frame.eval=vs:=by
 unfold cz at h;split at h
 ·rename_i f' aE my dst ty pos af gd ho;cases h;exact⟨_,_,_,ho,rfl,rfl⟩
 ·cases h
structure Ext (P:SJ)(f:TO)(e:Array SQ->Sem SQ):Prop where
 fn : ∃ fn, P.funcs[f]? = some fn /\ (fn.name == "runtime.NumGoroutine") = false /\ fn.body.isNone = true /\ Extern.findNext fn = none /\ Extern.find fn = some e
variable {main:Bool}{g:SG}{f:TO}{w:To}
theorem acV{v d:Int}{k:TY}{ad:U1}(h:cz g=some (f,#[.pointer (some ad),.int k d])) (he:Ext P f (XP (aua .add) k true)) (hc:w.cell? ad=some (.int k v)) (hz:w.frozen? ad=false):
  stepG P main g w=.go (fin g (.int k (k.wrap (v+d)))) (w.setCell ad (.int k (k.wrap (v+d)))) #[⟨.cell ad,false,true⟩,⟨.cell ad,true,true⟩]:=by
 obtain⟨o,aE,my,h1,h2,h3⟩:=cz.out h;obtain⟨b,a,ops,i,rest,kk,cs,e,q1,q2,q3,q4,q5,q6,_⟩:=ready.out h1;obtain⟨fn,f1,f2,f3,f4,f5⟩:=he.fn;rw[<- q4]at h3;rw[<- q5];refine VL (congrArg (λx=>stepG P main x w) e) ?_;exact ZC q1 q2 q3 h2 f1 f2 f3 f4 f5 (by rw[h3];exact run_add_entry hc hz) (by rw[h3,events_add_entry hc hz];rfl) (sync_rw ad)
theorem NR{v:Int}{k:TY}{ad:U1}(h:cz g=some (f,#[.pointer (some ad)])) (he:Ext P f (XY (.int k))) (hc:w.cell? ad=some (.int k v)):
  stepG P main g w=.go (fin g (.int k v)) w #[⟨.cell ad,false,true⟩]:=by
 obtain⟨o,aE,my,h1,h2,h3⟩:=cz.out h;obtain⟨b,a,ops,i,rest,kk,cs,e,q1,q2,q3,q4,q5,q6,_⟩:=ready.out h1;obtain⟨fn,f1,f2,f3,f4,f5⟩:=he.fn;rw[<- q4]at h3;rw[<- q5];refine VL (congrArg (λx=>stepG P main x w) e) ?_;obtain⟨x,rfl⟩:∃x,aE=#[x]:=by
  have:aE.size=1:=by have:=congrArg aa' h3;simpa using this
  exact Array.size_eq_one_iff.1 this
 exact stepG_load_atomic q1 q2 q3 h2 f1 f2 f3 f4 k f5 (by simpa using h3) hc
theorem aqP{v:Int}{u:SQ}{k:TY}{ad:U1}(h:cz g=some (f,#[.pointer (some ad),.int k v])) (he:Ext P f XQ) (hc:w.cell? ad=some u) (hz:w.frozen? ad=false):
  stepG P main g w=.go (fin g (.tuple #[])) (w.setCell ad (.int k v)) #[⟨.cell ad,true,true⟩]:=by
 obtain⟨o,aE,my,h1,h2,h3⟩:=cz.out h;obtain⟨b,a,ops,i,rest,kk,cs,e,q1,q2,q3,q4,q5,q6,_⟩:=ready.out h1;obtain⟨fn,f1,f2,f3,f4,f5⟩:=he.fn;rw[<- q4]at h3;rw[<- q5];refine VL (congrArg (λx=>stepG P main x w) e) ?_;obtain⟨x,y,rfl⟩:∃x y,aE=#[x,y]:=by
  have:aE.toList.length=2:=by have:=congrArg aa' h3;simpa using this
  obtain⟨l⟩:=aE
  match l,this with
  |[x,y],_=>exact⟨x,y,rfl⟩
 have v9:a.eval x=.pointer (some ad)/\a.eval y=.int k v:=by simpa using h3
 exact stepG_store_atomic q1 q2 q3 h2 f1 f2 f3 f4 f5 v9.1 v9.2 hc hz
theorem aqI{v n:Int}{k:TY}{ad:U1}(h:cz g=some (f,#[.pointer (some ad),.int k v,.int k n])) (he:Ext P f (WS (.int k))) (hc:w.cell? ad=some (.int k v)) (hz:w.frozen? ad=false):
  stepG P main g w=.go (fin g (.bool true)) (w.setCell ad (.int k n)) #[⟨.cell ad,false,true⟩,⟨.cell ad,true,true⟩]:=by
 obtain⟨o,aE,my,h1,h2,h3⟩:=cz.out h;obtain⟨b,a,ops,i,rest,kk,cs,e,q1,q2,q3,q4,q5,q6,_⟩:=ready.out h1;obtain⟨fn,f1,f2,f3,f4,f5⟩:=he.fn;rw[<- q4]at h3;rw[<- q5];refine VL (congrArg (λx=>stepG P main x w) e) ?_;exact ZC q1 q2 q3 h2 f1 f2 f3 f4 f5 (by rw[h3,ZZ];exact run_cas_hit_entry hc hz) (by rw[h3,ZZ,events_cas_hit_entry hc hz];rfl) (sync_rw ad)
theorem aqJ{v old n:Int}{k:TY}{ad:U1}(h:cz g=some (f,#[.pointer (some ad),.int k old,.int k n])) (he:Ext P f (WS (.int k))) (hc:w.cell? ad=some (.int k v)) (hz:w.frozen? ad=false) (aG:¬v=old):
  stepG P main g w=.go (fin g (.bool false)) w #[⟨.cell ad,false,true⟩]:=by
 obtain⟨o,aE,my,h1,h2,h3⟩:=cz.out h;obtain⟨b,a,ops,i,rest,kk,cs,e,q1,q2,q3,q4,q5,q6,_⟩:=ready.out h1;obtain⟨fn,f1,f2,f3,f4,f5⟩:=he.fn;rw[<- q4]at h3;rw[<- q5];refine VL (congrArg (λx=>stepG P main x w) e) ?_;exact ZC q1 q2 q3 h2 f1 f2 f3 f4 f5 (by rw[h3,ZZ];exact run_cas_miss_entry hc hz aG) (by rw[h3,ZZ,events_cas_miss_entry hc hz aG];rfl) (sync_r ad)
theorem aqN{n:Int}{x y:SQ}{ad:U1}(h:cz g=some (f,#[.pointer (some ad),x,y])) (he:Ext P f XO) (hc:w.cell? ad=some (.int .u32 n)) (hz:w.frozen? ad=false):
  stepG P main g w=.go (fin g (.tuple #[])) (w.setCell ad (.int .u32 (ai_.wrap (n+1)))) (semEvents ad):=by
 obtain⟨o,aE,my,h1,h2,h3⟩:=cz.out h;obtain⟨b,a,ops,i,rest,kk,cs,e,q1,q2,q3,q4,q5,q6,_⟩:=ready.out h1;obtain⟨fn,f1,f2,f3,f4,f5⟩:=he.fn;rw[<- q4]at h3;rw[<- q5];refine VL (congrArg (λx=>stepG P main x w) e) ?_;exact stepG_semrelease q1 q2 q3 h2 f1 f2 f3 f4 f5 (by rw[h3];rfl) hc hz
theorem aqM{n:Int}{x:SQ}{ad:U1}(h:cz g=some (f,#[.pointer (some ad),x])) (he:Ext P f WE) (hc:w.cell? ad=some (.int .u32 n)) (hn:n≠0) (hz:w.frozen? ad=false):
  stepG P main g w=.go (fin g (.tuple #[])) (w.setCell ad (.int .u32 (n-1))) (semEvents ad):=by
 obtain⟨o,aE,my,h1,h2,h3⟩:=cz.out h;obtain⟨b,a,ops,i,rest,kk,cs,e,q1,q2,q3,q4,q5,q6,_⟩:=ready.out h1;obtain⟨fn,f1,f2,f3,f4,f5⟩:=he.fn;rw[<- q4]at h3;rw[<- q5];refine VL (congrArg (λx=>stepG P main x w) e) ?_;exact stepG_semacquire q1 q2 q3 h2 f1 f2 f3 f4 f5 (by rw[h3];rfl) hc hn hz
theorem aqO{x:SQ}{ad:U1}(h:cz g=some (f,#[.pointer (some ad),x])) (he:Ext P f WE) (hc:w.cell? ad=some (.int .u32 0)):
  stepG P main g w=.go {g with status:=.blocked} w #[]:=by
 obtain⟨o,aE,my,h1,h2,h3⟩:=cz.out h;obtain⟨b,a,ops,i,rest,kk,cs,e,q1,q2,q3,q4,q5,q6,_⟩:=ready.out h1;obtain⟨fn,f1,f2,f3,f4,f5⟩:=he.fn;rw[<- q4]at h3;rw[e];exact stepG_semacquire_wait q1 q2 h2 f1 f2 f3 f4 f5 (by rw[h3];rfl) hc
theorem HB{ad:U1}(mk:U1->Mark)(hm:∀ad g,mk ad≠ .extern g)(h:cz g=some (f,#[.pointer (some ad)])) (he:Ext P f (VK mk)):
  stepG P main g w=.go (fin g (.tuple #[])) w #[⟨.mark (mk ad),false,true⟩]:=by
 obtain⟨o,aE,my,h1,h2,h3⟩:=cz.out h;obtain⟨b,a,ops,i,rest,kk,cs,e,q1,q2,q3,q4,q5,q6,_⟩:=ready.out h1;obtain⟨fn,f1,f2,f3,f4,f5⟩:=he.fn;rw[<- q4]at h3;rw[<- q5];refine VL (congrArg (λx=>stepG P main x w) e) ?_;exact stepG_markAt mk hm q1 q2 q3 h2 f1 f2 f3 f4 f5 (by rw[h3];rfl)
def pw (g:SG):Option (TypeId×TypeId×SQ):=match ready g with
 |some {op:=.convert s d x, .. }=>some (s,d,g.frame.eval x)
 |_=>none
theorem HC{src dst t:TypeId}{ad:U1}{v:SQ}(h:pw g=some (src,dst,.pointer (some ad)))(hs:P.underlying src=some (.pointer t))(hd:P.underlying dst=some .unsafePointer)(aY:(P.info? t).map (λi=>decide (i.size=0))=some false)(hc:w.cell? ad=some v):
  stepG P main g w=.go (fin g (.pointer (some ad))) w #[]:=by
 obtain⟨o,x,h1,h2,h3⟩:∃o x,ready g=some o/\o.op=.convert src dst x/\g.frame.eval x=.pointer (some ad):=by
  unfold pw at h;split at h
  ·rename_i s d x _ _ _ _ ho;simp only[Tj,UY]at h;obtain⟨rfl,rfl,h⟩:=h;exact⟨_,x,ho,rfl,h⟩
  ·cases h
 obtain⟨b,a,ops,i,rest,kk,cs,e,q1,q2,q3,q4,q5,q6,_⟩:=ready.out h1;rw[<- q4]at h3;rw[<- q5];refine VL (congrArg (λx=>stepG P main x w) e) ?_;have hr:(execOp a.eval o).run P w=.ok (.value (.pointer (some ad))) w:=by
  unfold execOp;simp only[h2,h3];simp[run_convert_to_unsafe hs hd aY hc]
 have cC:(execOp a.eval o).events P w #[]=#[]:=by
  unfold execOp;simp only[h2,h3];simp[events_convert_to_unsafe hs hd aY hc]
 rw[at0 q1 q2 q3 hr];unfold listed;rw[cC,Z9]
end
open Go.Proofs
section
variable {P:SJ}
theorem NN{Stop:Nat->SG->Prop}{d:Nat}{g g':SG}{es:Array Ur}(hr:g.status=.running)(hm:∀e∈es,WF e=true)(h:∀w,stepG P false g w=.go g' w es)(hs:∃m,cZ P Stop m (deafBehind d es) g'):∃m,cZ P Stop m d g:=by
 obtain⟨m,hs⟩:=hs;exact⟨m+1,.inr ⟨hr,g',es,hm,h,hs⟩⟩
theorem HA{main:Bool}{g:SG}{f:TO}{w:To}{m:Mark}(hm:∀g,m≠ .extern g)(h:cz g=some (f,#[])) (he:Ext P f (λ_=>do ad_ m;pure W3)):stepG P main g w=.go (fin g (.tuple #[])) w #[⟨.mark m,false,true⟩]:=by
 obtain⟨o,xs,my,h1,h2,h3⟩:=cz.out h;obtain⟨b,a,ops,i,rest,kk,cs,e,q1,q2,q3,q4,q5,q6,_⟩:=ready.out h1;obtain⟨fn,f1,f2,f3,f4,f5⟩:=he.fn;rw[<- q4]at h3;rw[<- q5];refine VL (congrArg (λx=>stepG P main x w) e) ?_;exact stepG_mark0 m hm q1 q2 q3 h2 f1 f2 f3 f4 f5
theorem acW{main:Bool}{g:SG}{f:TO}{w:To}{v:SQ}{vs:Array SQ}(h:cz g=some (f,vs))(he:Ext P f (λ_=>pure v)):stepG P main g w=.go (fin g v) w #[]:=by
 obtain⟨o,xs,my,h1,h2,h3⟩:=cz.out h;obtain⟨b,a,ops,i,rest,kk,cs,e,q1,q2,q3,q4,q5,q6,_⟩:=ready.out h1;obtain⟨fn,f1,f2,f3,f4,f5⟩:=he.fn;rw[<- q5];refine VL (congrArg (λx=>stepG P main x w) e) ?_;exact stepG_entry_pure v q1 q2 q3 h2 f1 f2 f3 f4 f5
theorem WgAt.st{Wg:Nat}{w:To}{st sm:Int}(h:WgAt P Wg w st sm):w.cell? ⟨Wg,0,none⟩=some (.int .u64 st)/\w.cell? ⟨Wg,1,none⟩=some (.int .u32 sm)/\w.frozen? ⟨Wg,0,none⟩=false/\w.frozen? ⟨Wg,1,none⟩=false:=by
 unfold WgAt wgBlock at h;refine⟨?_,?_,?_,?_⟩<;>simp[Uy,ZP,h]
theorem MR{m:Mark}(hm:m=.disable\/m=.enable):∀e∈(#[⟨.mark m,false,true⟩]:Array Ur),WF e=true:=by
 intro e he;simp only[TJ,SL,S0,or_false]at he;subst he;rcases hm with rfl|rfl<;>rfl
end
set_option maxRecDepth 100000
theorem ag6:Ext SC 110 (VK .releaseMerge):=⟨⟨Tryz.f110,by kernel_rfl,by kernel_rfl,by kernel_rfl,by kernel_rfl,by kernel_rfl⟩⟩
theorem I_:Ext SC 111 (λ_=>do ad_ .disable;pure W3):=⟨⟨Tryz.f111,by kernel_rfl,by kernel_rfl,by kernel_rfl,by kernel_rfl,by kernel_rfl⟩⟩
theorem ag7:Ext SC 112 (λ_=>do ad_ .enable;pure W3):=⟨⟨Tryz.f112,by kernel_rfl,by kernel_rfl,by kernel_rfl,by kernel_rfl,by kernel_rfl⟩⟩
theorem P2:Ext SC 113 (λ_=>pure (.bool false)):=⟨⟨Tryz.f113,by kernel_rfl,by kernel_rfl,by kernel_rfl,by kernel_rfl,by kernel_rfl⟩⟩
theorem ag8:Ext SC 118 (VK .read):=⟨⟨Tryz.f118,by kernel_rfl,by kernel_rfl,by kernel_rfl,by kernel_rfl,by kernel_rfl⟩⟩
theorem ag9:Ext SC 122 XO:=⟨⟨Tryz.f122,by kernel_rfl,by kernel_rfl,by kernel_rfl,by kernel_rfl,by kernel_rfl⟩⟩
theorem aha:Ext SC 123 (VK .acquire):=⟨⟨Tryz.f123,by kernel_rfl,by kernel_rfl,by kernel_rfl,by kernel_rfl,by kernel_rfl⟩⟩
theorem ahb:Ext SC 126 (VK .write):=⟨⟨Tryz.f126,by kernel_rfl,by kernel_rfl,by kernel_rfl,by kernel_rfl,by kernel_rfl⟩⟩
theorem P3:Ext SC 127 WE:=⟨⟨Tryz.f127,by kernel_rfl,by kernel_rfl,by kernel_rfl,by kernel_rfl,by kernel_rfl⟩⟩
theorem P4:Ext SC 134 (XP (aua .add) .u64 true):=⟨⟨Tryz.f134,by kernel_rfl,by kernel_rfl,by kernel_rfl,by kernel_rfl,by kernel_rfl⟩⟩
theorem Ja:Ext SC 135 (XY (.int .u64)):=⟨⟨Tryz.f135,by kernel_rfl,by kernel_rfl,by kernel_rfl,by kernel_rfl,by kernel_rfl⟩⟩
theorem ahc:Ext SC 136 XQ:=⟨⟨Tryz.f136,by kernel_rfl,by kernel_rfl,by kernel_rfl,by kernel_rfl,by kernel_rfl⟩⟩
theorem P5:Ext SC 137 (WS (.int .u64)):=⟨⟨Tryz.f137,by kernel_rfl,by kernel_rfl,by kernel_rfl,by kernel_rfl,by kernel_rfl⟩⟩
theorem adC:SC.underlying 158=some (.pointer 147):=by kernel_rfl
theorem HI:SC.underlying 160=some .unsafePointer:=by kernel_rfl
theorem i182:(SC.info? 147).map (λi=>decide (i.size=0))=some false:=by kernel_rfl
noncomputable def apF:Uc:={(default:Uc)with fn:=184,defers:=[],mode:=.panicking [goexitEntry]}
noncomputable def apB (fn:TO)(tmps:Array SQ)(todo:List WR):Uc:={fn,tmps,todo,defers:=[],mode:=.returning,kind:=.deferred,roundOf:=none}
noncomputable def pW (Wg o:Nat):SQ:=.pointer (some ⟨Wg,o,none⟩)
section
variable (Wg:Nat)(tmps:Array SQ)(todo:List WR)
noncomputable def d0:SG:=G (Frame.enter SC 98 #[pW Wg 0] .deferred) [apB 97 tmps todo,apF]
noncomputable def d14:SG:=cJ SC false 14 (d0 Wg tmps todo)
noncomputable def d15:SG:=fin (d14 Wg tmps todo) (pW Wg 0)
noncomputable def d16:SG:=fin (d15 Wg tmps todo) (.tuple #[])
noncomputable def d19:SG:=cJ SC false 3 (d16 Wg tmps todo)
noncomputable def d20:SG:=fin (d19 Wg tmps todo) (.tuple #[])
noncomputable def d31:SG:=cJ SC false 11 (d20 Wg tmps todo)
noncomputable def d32:SG:=fin (d31 Wg tmps todo) (.bool false)
noncomputable def d54:SG:=cJ SC false 22 (d32 Wg tmps todo)
noncomputable def d55 (s:Int):SG:=fin (d54 Wg tmps todo) (.int .u64 s)
noncomputable def d158:SG:=cJ SC false 103 (d55 Wg tmps todo 1)
noncomputable def d159:SG:=fin (d158 Wg tmps todo) (.int .u64 1)
noncomputable def d179:SG:=cJ SC false 20 (d159 Wg tmps todo)
noncomputable def d180:SG:=fin (d179 Wg tmps todo) (.tuple #[])
noncomputable def B1:SG:=cJ SC false 27 (d180 Wg tmps todo)
noncomputable def zH:SG:=fin (B1 Wg tmps todo) (.tuple #[])
set_option maxRecDepth 100000
variable (w:To)
theorem x0:(gp SC false w 14 (d0 Wg tmps todo),oZ SC false 14 (d0 Wg tmps todo),bR (d14 Wg tmps todo),bR (d15 Wg tmps todo))=(fV SC false w 14 (d0 Wg tmps todo),true,true,true):=by kernel_rfl
theorem x14:pw (d14 Wg tmps todo)=some (158,160,pW Wg 0):=by kernel_rfl
theorem x15:cz (d15 Wg tmps todo)=some (110,#[pW Wg 0]):=by kernel_rfl
theorem HV:(gp SC false w 3 (d16 Wg tmps todo),jk SC false 3 (d16 Wg tmps todo),bR (d19 Wg tmps todo),j9 SC false 3 0 (d16 Wg tmps todo))=(fV SC false w 3 (d16 Wg tmps todo),true,true,0):=by kernel_rfl
theorem x19:cz (d19 Wg tmps todo)=some (111,#[]):=by kernel_rfl
theorem HX:(gp SC false w 11 (d20 Wg tmps todo),jk SC false 11 (d20 Wg tmps todo),bR (d31 Wg tmps todo),j9 SC false 11 1 (d20 Wg tmps todo))=(fV SC false w 11 (d20 Wg tmps todo),true,true,1):=by kernel_rfl
theorem x31:cz (d31 Wg tmps todo)=some (113,#[]):=by kernel_rfl
theorem HZ:(gp SC false w 22 (d32 Wg tmps todo),jk SC false 22 (d32 Wg tmps todo),bR (d54 Wg tmps todo),j9 SC false 22 1 (d32 Wg tmps todo))=(fV SC false w 22 (d32 Wg tmps todo),true,true,1):=by kernel_rfl
theorem x54:cz (d54 Wg tmps todo)=some (134,#[pW Wg 0,.int .u64 18446744069414584320]):=by kernel_rfl
theorem q30:(gp SC false w 94 (d55 Wg tmps todo (3* 4294967296)),jk SC false 94 (d55 Wg tmps todo (3* 4294967296)),(cJ SC false 94 (d55 Wg tmps todo (3* 4294967296))).status,j9 SC false 94 1 (d55 Wg tmps todo (3* 4294967296)))=(fV SC false w 94 (d55 Wg tmps todo (3* 4294967296)),true,.finished,0):=by kernel_rfl
theorem q31:(gp SC false w 94 (d55 Wg tmps todo (3* 4294967296+1)),jk SC false 94 (d55 Wg tmps todo (3* 4294967296+1)),(cJ SC false 94 (d55 Wg tmps todo (3* 4294967296+1))).status,j9 SC false 94 1 (d55 Wg tmps todo (3* 4294967296+1)))=(fV SC false w 94 (d55 Wg tmps todo (3* 4294967296+1)),true,.finished,0):=by kernel_rfl
theorem q20:(gp SC false w 94 (d55 Wg tmps todo (2* 4294967296)),jk SC false 94 (d55 Wg tmps todo (2* 4294967296)),(cJ SC false 94 (d55 Wg tmps todo (2* 4294967296))).status,j9 SC false 94 1 (d55 Wg tmps todo (2* 4294967296)))=(fV SC false w 94 (d55 Wg tmps todo (2* 4294967296)),true,.finished,0):=by kernel_rfl
theorem q21:(gp SC false w 94 (d55 Wg tmps todo (2* 4294967296+1)),jk SC false 94 (d55 Wg tmps todo (2* 4294967296+1)),(cJ SC false 94 (d55 Wg tmps todo (2* 4294967296+1))).status,j9 SC false 94 1 (d55 Wg tmps todo (2* 4294967296+1)))=(fV SC false w 94 (d55 Wg tmps todo (2* 4294967296+1)),true,.finished,0):=by kernel_rfl
theorem q10:(gp SC false w 94 (d55 Wg tmps todo (1* 4294967296)),jk SC false 94 (d55 Wg tmps todo (1* 4294967296)),(cJ SC false 94 (d55 Wg tmps todo (1* 4294967296))).status,j9 SC false 94 1 (d55 Wg tmps todo (1* 4294967296)))=(fV SC false w 94 (d55 Wg tmps todo (1* 4294967296)),true,.finished,0):=by kernel_rfl
theorem q11:(gp SC false w 94 (d55 Wg tmps todo (1* 4294967296+1)),jk SC false 94 (d55 Wg tmps todo (1* 4294967296+1)),(cJ SC false 94 (d55 Wg tmps todo (1* 4294967296+1))).status,j9 SC false 94 1 (d55 Wg tmps todo (1* 4294967296+1)))=(fV SC false w 94 (d55 Wg tmps todo (1* 4294967296+1)),true,.finished,0):=by kernel_rfl
theorem q00:(gp SC false w 94 (d55 Wg tmps todo 0),jk SC false 94 (d55 Wg tmps todo 0),(cJ SC false 94 (d55 Wg tmps todo 0)).status,j9 SC false 94 1 (d55 Wg tmps todo 0))=(fV SC false w 94 (d55 Wg tmps todo 0),true,.finished,0):=by kernel_rfl
theorem H2:(gp SC false w 103 (d55 Wg tmps todo 1),jk SC false 103 (d55 Wg tmps todo 1),bR (d158 Wg tmps todo),j9 SC false 103 1 (d55 Wg tmps todo 1))=(fV SC false w 103 (d55 Wg tmps todo 1),true,true,1):=by kernel_rfl
theorem asn:cz (d158 Wg tmps todo)=some (135,#[pW Wg 0]):=by kernel_rfl
theorem HU:(gp SC false w 20 (d159 Wg tmps todo),jk SC false 20 (d159 Wg tmps todo),bR (d179 Wg tmps todo),j9 SC false 20 1 (d159 Wg tmps todo))=(fV SC false w 20 (d159 Wg tmps todo),true,true,1):=by kernel_rfl
theorem aso:cz (d179 Wg tmps todo)=some (136,#[pW Wg 0,.int .u64 0]):=by kernel_rfl
theorem HW:(gp SC false w 27 (d180 Wg tmps todo),jk SC false 27 (d180 Wg tmps todo),bR (B1 Wg tmps todo),j9 SC false 27 1 (d180 Wg tmps todo))=(fV SC false w 27 (d180 Wg tmps todo),true,true,1):=by kernel_rfl
theorem asp:cz (B1 Wg tmps todo)=some (122,#[pW Wg 1,.bool false,.int .i64 0]):=by kernel_rfl
theorem HY:(gp SC false w 24 (zH Wg tmps todo),jk SC false 24 (zH Wg tmps todo),(cJ SC false 24 (zH Wg tmps todo)).status,j9 SC false 24 1 (zH Wg tmps todo))=(fV SC false w 24 (zH Wg tmps todo),true,.finished,0):=by kernel_rfl
theorem xm:mayWake SC (B1 Wg tmps todo)=true:=by kernel_rfl
end
section
variable (Wg:Nat)(tmps:Array SQ)(todo:List WR)
theorem eo{α β γ δ:Type}{a a':α}{b b':β}{c c':γ}{d d':δ}(h:(a,b,c,d)=(a',b',c',d')):a=a'/\b=b'/\c=c'/\d=d':=by
 simpa[UY]using h
theorem xH{s:Int}(h:∀w,(gp SC false w 94 (d55 Wg tmps todo s),jk SC false 94 (d55 Wg tmps todo s),(cJ SC false 94 (d55 Wg tmps todo s)).status,j9 SC false 94 1 (d55 Wg tmps todo s))=(fV SC false w 94 (d55 Wg tmps todo s),true,.finished,0)):∃q,Y4 SC q 1 (d55 Wg tmps todo s):=
 Ho 94 1 _ (λw=>(eo (h w)).1) (eo (h default)).2.1 (Nw (eo (h default)).2.2.1 (eo (h default)).2.2.2)
theorem agY:Em SC Wg 1 (B1 Wg tmps todo):=by
 refine⟨rfl,bR.out (eo (HW Wg tmps todo default)).2.2.1,xm Wg tmps todo,zH Wg tmps todo,λw hw=> ?_,?_⟩
 ·exact aqN (n:=0) (asp Wg tmps todo) ag9 hw.st.2.1 hw.st.2.2.2
 ·exact Ho 24 1 _ (λw=>(eo (HY Wg tmps todo w)).1) (eo (HY Wg tmps todo default)).2.1 (Nw (eo (HY Wg tmps todo default)).2.2.1 (eo (HY Wg tmps todo default)).2.2.2)
theorem agZ:En SC Wg 1 (d179 Wg tmps todo):=by
 refine⟨rfl,bR.out (eo (HU Wg tmps todo default)).2.2.1,d180 Wg tmps todo,λw hw=> ?_,?_⟩
 ·exact aqP (aso Wg tmps todo) ahc hw.st.1 hw.st.2.2.1
 ·refine w7 27 1 _ (λw=>(eo (HW Wg tmps todo w)).1) (eo (HW Wg tmps todo default)).2.1 ?_;rw[(eo (HW Wg tmps todo default)).2.2.2];exact⟨0,agY Wg tmps todo⟩
theorem agX:El SC Wg 1 (d158 Wg tmps todo):=by
 refine⟨rfl,bR.out (eo (H2 Wg tmps todo default)).2.2.1,d159 Wg tmps todo,λw hw=> ?_,?_⟩
 ·exact NR (asn Wg tmps todo) Ja hw.st.1
 ·refine w7 20 1 _ (λw=>(eo (HU Wg tmps todo w)).1) (eo (HU Wg tmps todo default)).2.1 ?_;rw[(eo (HU Wg tmps todo default)).2.2.2];exact⟨0,agZ Wg tmps todo⟩
theorem agV:Bm SC Wg 1 (d54 Wg tmps todo):=by
 refine⟨rfl,bR.out (eo (HZ Wg tmps todo default)).2.2.1,λv wt u' hv=>⟨d55 Wg tmps todo ((v:Int)* KK+wt),λw hw=> ?_,λh=> ?_,λh=> ?_⟩⟩
 ·have e:Tx.wrap ((((v+1:Nat):Int)* KK+wt)+18446744069414584320)=(v:Int)* KK+wt:=by
   have h1:Tx.bits=64:=rfl;have h2:Tx.signed=false:=rfl;unfold W9 KK;rw[h1,h2];simp;omega
  have:=acV (P:=SC) (main:=false) (w:=w) (x54 Wg tmps todo) P4 hw.st.1 hw.st.2.2.1;rw[e]at this;exact this
 ·obtain⟨rfl,rfl⟩:=h;refine w7 103 1 _ (λw=>(eo (H2 Wg tmps todo w)).1) (eo (H2 Wg tmps todo default)).2.1 ?_;have e:=(eo (H2 Wg tmps todo default)).2.2.2;exact⟨0,by rw[show (((0:Nat):Int)* KK+((1:Nat):Int))=1 from rfl,e];exact agX Wg tmps todo⟩
 ·have hv4:v=0\/v=1\/v=2\/v=3:=by omega
  have f_:wt=0\/wt=1:=by omega
  rcases hv4 with rfl|rfl|rfl|rfl<;>rcases f_ with rfl|rfl
  ·exact xH Wg tmps todo (q00 Wg tmps todo)
  ·exact absurd ⟨rfl,rfl⟩ h
  ·exact xH Wg tmps todo (q10 Wg tmps todo)
  ·exact xH Wg tmps todo (q11 Wg tmps todo)
  ·exact xH Wg tmps todo (q20 Wg tmps todo)
  ·exact xH Wg tmps todo (q21 Wg tmps todo)
  ·exact xH Wg tmps todo (q30 Wg tmps todo)
  ·exact xH Wg tmps todo (q31 Wg tmps todo)
theorem agW:Et SC Wg (d15 Wg tmps todo):=by
 refine⟨bR.out (eo (x0 Wg tmps todo default)).2.2.2,d16 Wg tmps todo,λw=>HB .releaseMerge (λ_ _ h=>by cases h) (x15 Wg tmps todo) ag6,?_⟩;refine w7 3 0 _ (λw=>(eo (HV Wg tmps todo w)).1) (eo (HV Wg tmps todo default)).2.1 ?_;rw[(eo (HV Wg tmps todo default)).2.2.2];refine NN (g:=d19 Wg tmps todo) (g':=d20 Wg tmps todo) (bR.out (eo (HV Wg tmps todo default)).2.2.1) (MR (.inl rfl)) (λw=>HA (λ_ h=>by cases h) (x19 Wg tmps todo) I_) ?_;refine w7 11 1 (d20 Wg tmps todo) (λw=>(eo (HX Wg tmps todo w)).1) (eo (HX Wg tmps todo default)).2.1 ?_;rw[(eo (HX Wg tmps todo default)).2.2.2];refine NN (es:=#[]) (g:=d31 Wg tmps todo) (g':=d32 Wg tmps todo) (bR.out (eo (HX Wg tmps todo default)).2.2.1) (by simp) (λw=>acW (x31 Wg tmps todo) P2) ?_;refine w7 22 1 (d32 Wg tmps todo) (λw=>(eo (HZ Wg tmps todo w)).1) (eo (HZ Wg tmps todo default)).2.1 ?_;rw[(eo (HZ Wg tmps todo default)).2.2.2];exact⟨0,agV Wg tmps todo⟩
theorem ag0{J:View->SG->Prop}(C:zd SC false J){V:View}{c:Nat}(hr:V.role=.work c Wg [])(hd:V.deaf=0):J V (d0 Wg tmps todo):=by
 have C':Closed false SC false J:={C with more:=λh=>by cases h};have hx:=eo (x0 Wg tmps todo default);refine tV C' 14 _ (λw=>(eo (x0 Wg tmps todo w)).1) hx.2.1 ?_;refine C.slip V _ (d15 Wg tmps todo) c Wg hr (bR.out hx.2.2.1) (λw st hw hW=> ?_) (C.done V _ c Wg hr hd (agW Wg tmps todo));exact HC (x14 Wg tmps todo) adC HI i182 hW.st.1
end
section
variable (Wg:Nat)(cs:List Uc)(main:Bool)
noncomputable def a0:SG:=G (Frame.enter SC 96 #[pW Wg 0,.int .i64 1] .normal) cs
noncomputable def ED:SG:=cJ SC main 12 (a0 Wg cs)
noncomputable def BI:SG:=fin (ED Wg cs main) (.tuple #[])
noncomputable def EE:SG:=cJ SC main 11 (BI Wg cs main)
noncomputable def BK:SG:=fin (EE Wg cs main) (.bool false)
noncomputable def EF:SG:=cJ SC main 22 (BK Wg cs main)
noncomputable def nD (s:Int):SG:=fin (EF Wg cs main) (.int .u64 s)
noncomputable def nC (s:Int):SG:=cJ SC main 87 (nD Wg cs main s)
noncomputable def Io:SG:=cJ SC main 52 (nD Wg cs main 4294967296)
noncomputable def BG:SG:=fin (Io Wg cs main) (pW Wg 1)
noncomputable def BH:SG:=fin (BG Wg cs main) (.tuple #[])
noncomputable def BJ:SG:=cJ SC main 39 (BH Wg cs main)
set_option maxRecDepth 100000
variable (w:To)
theorem y0:(gp SC main w 12 (a0 Wg cs),oZ SC main 12 (a0 Wg cs),bR (ED Wg cs main),cz (ED Wg cs main))=(fV SC main w 12 (a0 Wg cs),true,true,some (111,#[])):=by kernel_rfl
theorem y13:(gp SC main w 11 (BI Wg cs main),oZ SC main 11 (BI Wg cs main),bR (EE Wg cs main),cz (EE Wg cs main))=(fV SC main w 11 (BI Wg cs main),true,true,some (113,#[])):=by kernel_rfl
theorem y25:(gp SC main w 22 (BK Wg cs main),oZ SC main 22 (BK Wg cs main),bR (EF Wg cs main),cz (EF Wg cs main))=(fV SC main w 22 (BK Wg cs main),true,true,some (134,#[pW Wg 0,.int .u64 4294967296])):=by kernel_rfl
noncomputable def yK (g:SG):ZB×U6×Nat×Xa×List UW×Bool:=(.go (gR SC main g) w #[⟨.mark .enable,false,true⟩],(gR SC main g).frame.mode,(gR SC main g).frame.fn,(gR SC main g).frame.kind,(gR SC main g).frame.defers,bR (gR SC main g))
theorem Ol:(gp SC main w 87 (nD Wg cs main (2* 4294967296)),oZ SC main 87 (nD Wg cs main (2* 4294967296)),bR (nC Wg cs main (2* 4294967296)),yK main w (nC Wg cs main (2* 4294967296)))=(fV SC main w 87 (nD Wg cs main (2* 4294967296)),true,true,stepG SC main (nC Wg cs main (2* 4294967296)) w,.returning,96,.normal,[],true):=by kernel_rfl
theorem Om:(gp SC main w 87 (nD Wg cs main (3* 4294967296)),oZ SC main 87 (nD Wg cs main (3* 4294967296)),bR (nC Wg cs main (3* 4294967296)),yK main w (nC Wg cs main (3* 4294967296)))=(fV SC main w 87 (nD Wg cs main (3* 4294967296)),true,true,stepG SC main (nC Wg cs main (3* 4294967296)) w,.returning,96,.normal,[],true):=by kernel_rfl
theorem On:(gp SC main w 87 (nD Wg cs main (4* 4294967296)),oZ SC main 87 (nD Wg cs main (4* 4294967296)),bR (nC Wg cs main (4* 4294967296)),yK main w (nC Wg cs main (4* 4294967296)))=(fV SC main w 87 (nD Wg cs main (4* 4294967296)),true,true,stepG SC main (nC Wg cs main (4* 4294967296)) w,.returning,96,.normal,[],true):=by kernel_rfl
theorem adS:(gp SC main w 52 (nD Wg cs main 4294967296),oZ SC main 52 (nD Wg cs main 4294967296),bR (Io Wg cs main),pw (Io Wg cs main))=(fV SC main w 52 (nD Wg cs main 4294967296),true,true,some (165,160,pW Wg 1)):=by kernel_rfl
theorem asq:cz (BG Wg cs main)=some (118,#[pW Wg 1]):=by kernel_rfl
theorem Oj:(gp SC main w 39 (BH Wg cs main),oZ SC main 39 (BH Wg cs main),bR (BJ Wg cs main),yK main w (BJ Wg cs main))=(fV SC main w 39 (BH Wg cs main),true,true,stepG SC main (BJ Wg cs main) w,.returning,96,.normal,[],true):=by kernel_rfl
theorem yr1:bR (BG Wg cs main)=true:=by kernel_rfl
theorem HJ:∃t,SC.underlying 165=some (.pointer t)/\(SC.info? t).map (λi=>decide (i.size=0))=some false:=⟨145,by kernel_rfl,by kernel_rfl⟩
theorem ah2:∃fn,SC.funcs[96]?=some fn/\fn.results=#[]:=⟨Tryz.f96,by kernel_rfl,by kernel_rfl⟩
end
section
variable {P:SJ}{V:View}
theorem aqX{w:To}{b o:Nat}{v:SQ}{c:Array SQ}{el:TypeId}(hw:Sat V w)(ho:V.own b=some (.cells c el (0,0)))(cu:V.ab b o=none)(KH:V.role.chan≠some b):
  dq V w (V.upd b (.cells (c.setIfInBounds o v) el (0,0))) (w.setCell ⟨b,o,none⟩ v) #[⟨.cell ⟨b,o,none⟩,false,true⟩,⟨.cell ⟨b,o,none⟩,true,true⟩]:=by
 refine⟨hw.adG ho cu,rfl,rfl,rfl,by rw[DZ];exact SR _,λb' dL e=>ws _ _ _ (λx=> ?_),λb' dL e=> ?_,λ_ _ _ e=>e,λ_ _ _ e=> .inl e,λev cC=> ?_,by simp[deafBehind];rfl,rfl,λc' x bi e=>by rw[<- e];simp only[View.upd,ite_eq_right_iff];intro x';subst x';exact absurd bi KH,λev cC=> ?_⟩
 ·have x':b=b':=x;subst x';rw[ho]at e;cases e
 ·have:b'≠b:=by intro x;subst x;rw[ho]at e;cases e
  simp only[View.upd,this,if_false];exact e
 ·simp only[TJ,SL,S0,or_false]at cC;rcases cC with rfl|rfl
  ·exact⟨.inr (.inl (by show V.own b≠none;rw[ho];simp)),.inl rfl⟩
  ·exact⟨.inr ⟨by show V.own b≠none;rw[ho];simp,cu⟩,.inl rfl⟩
 ·simp only[TJ,SL,S0,or_false]at cC;rcases cC with rfl|rfl<;>(show b<_;rw[DZ];exact hw.lt ho)
theorem Closed.said{lv main:Bool}{J:View->SG->Prop}(C:Closed lv P main J){g g':SG}{a:U1}(hr:g.status=.running)(ha:V.own a.block≠none/\V.ab a.block a.off=none)(h:∀w,stepG P main g w=.go g' w #[⟨.mark (.read a),false,true⟩]) (hJ:J V g'):J V g:=by
 refine C.step _ _ hr λw hw=> ?_;have hs:=aqj (P:=P) (V:=V) (k:=(.pure ():Sem Unit)) (K:=λ_ V'=>V'=V) (Kp:=λ_ _=>False) (m:=.read a) (.inl rfl) ha (cO rfl);obtain⟨es,w',V',k1,k2,k3⟩:=hs.runs hw;rcases k3 with⟨x,k3,rfl⟩|⟨_,_,hx⟩
 ·have e1:Yc () w=Yc x w':=k3;have e2:es=#[⟨.mark (.read a),false,true⟩]:=k2.symm;cases e1;subst e2;refine⟨g',w,_,_,h w,?_,hJ⟩;rwa [tY (by simp)]at k1
 ·exact hx.elim
end
section
variable (Wg:Nat)(cs:List Uc)(main:Bool)
set_option maxRecDepth 100000
theorem yG2:gR SC main (nC Wg cs main (2* 4294967296))=G (gR SC main (nC Wg cs main (2* 4294967296))).frame cs:=by kernel_rfl
theorem yG3:gR SC main (nC Wg cs main (3* 4294967296))=G (gR SC main (nC Wg cs main (3* 4294967296))).frame cs:=by kernel_rfl
theorem yG4:gR SC main (nC Wg cs main (4* 4294967296))=G (gR SC main (nC Wg cs main (4* 4294967296))).frame cs:=by kernel_rfl
theorem yG1:gR SC main (BJ Wg cs main)=G (gR SC main (BJ Wg cs main)).frame cs:=by kernel_rfl
end
theorem lm{α β γ δ:Type}{a a':α}{b b':β}{c c':γ}{d d':δ}(h:(a,b,c,d)=(a',b',c',d')):a=a'/\b=b'/\c=c'/\d=d':=by
 simpa[UY]using h
section
variable {lv main:Bool}{J:View->SG->Prop}{V:View}{cs:List Uc}
theorem EI(C:Closed lv SC main J){g:SG}{U:View}(bO:bR g=true)(h:∀w,(Go.Gg.yK main w g)=(stepG SC main g w,.returning,96,.normal,[],true))(hG:gR SC main g=G (gR SC main g).frame cs)
  (hU:U={V with deaf:=deafBehind V.deaf #[⟨.mark .enable,false,true⟩]}) (hJ:∀fr,Leaves SC fr 96 .normal (.ret (.tuple #[])) U->J U (G fr cs)):J V g:=by
 refine C.mute (.inr rfl) (bR.out bO) (λw=> ?_) (g':=gR SC main g) ?_
 ·have:=h w;simp only[Go.Gg.yK,UY]at this;exact this.1.symm
 ·have:=h default;simp only[Go.Gg.yK,UY]at this;obtain⟨_,h1,h2,h3,h4,_⟩:=this;rw[hG,<- hU];refine hJ _ ⟨h2,h4,h3,?_⟩;obtain⟨fn,hf,hr⟩:=ah2;exact⟨fn,hf,h1,results_none hr⟩
theorem aeW{n Wg:Nat}{sm:TypeId}(hn:n<4)(hW:V.own Wg=some (.cells #[.int .u64 ((n:Int)* KK),.int .u32 0] sm (0,0))) (hi:∀o,V.ab Wg o=none) (hc:V.role.chan≠some Wg) (hd:V.deaf=0):
  Body lv SC 96 #[pW Wg 0,.int .i64 1] .normal V (λo V'=>o=.ret (.tuple #[])/\V'=V.upd Wg (.cells #[.int .u64 (((n+1:Nat):Int)* KK),.int .u32 0] sm (0,0))):=by
 intro main J C cs hJ;have hA:=lm (y0 Wg cs main default);show J V (a0 Wg cs);refine tV C 12 _ (λw=>(lm (y0 Wg cs main w)).1) hA.2.1 ?_;refine C.mute (g:=ED Wg cs main) (g':=BI Wg cs main) (.inl rfl) (bR.out hA.2.2.1) (λw=>HA (λ_ h=>by cases h) hA.2.2.2 I_) ?_;have hB:=lm (y13 Wg cs main default);refine tV C 11 _ (λw=>(lm (y13 Wg cs main w)).1) hB.2.1 ?_;refine C.idle (g:=EE Wg cs main) (g':=BK Wg cs main) (bR.out hB.2.2.1) (λw=>acW hB.2.2.2 P2) ?_;have hC:=lm (y25 Wg cs main default);refine tV C 22 _ (λw=>(lm (y25 Wg cs main w)).1) hC.2.1 ?_;let V1:View:={V with deaf:=deafBehind V.deaf #[⟨.mark .disable,false,true⟩]};let V2:View:=V1.upd Wg (.cells #[.int .u64 (((n+1:Nat):Int)* KK),.int .u32 0] sm (0,0));have zW:{V2 with deaf:=deafBehind V2.deaf #[⟨.mark .enable,false,true⟩]}=V.upd Wg (.cells #[.int .u64 (((n+1:Nat):Int)* KK),.int .u32 0] sm (0,0)):=by
  obtain⟨i,o,d,r⟩:=V;have:d=0:=hd;subst this;rfl
 show J V1 (EF Wg cs main);refine C.step _ _ (bR.out hC.2.2.1) λw hw=> ?_;have hh:=hw.own Wg _ hW;have dA:w.cell? ⟨Wg,0,none⟩=some (.int .u64 ((n:Int)* KK)):=by simp[Uy,hh]
 have iS:w.frozen? ⟨Wg,0,none⟩=false:=by simp[ZP,hh]
 have hs:=acV (P:=SC) (main:=main) (w:=w) hC.2.2.2 P4 dA iS;have e:Tx.wrap (((n:Int)* KK)+4294967296)=((n+1:Nat):Int)* KK:=by
  have h1:Tx.bits=64:=rfl;have h2:Tx.signed=false:=rfl;unfold W9 KK;rw[h1,h2];simp;omega
 rw[e]at hs;refine⟨nD Wg cs main (((n+1:Nat):Int)* KK),_,_,V2,hs,?_,?_⟩
 ·exact aqX (V:=V1) hw hW (hi 0) hc
 have Sr:n=0\/n=1\/n=2\/n=3:=by omega
 rcases Sr with rfl|rfl|rfl|rfl
 ·have hD:=lm (adS Wg cs main default);refine tV C 52 _ (λw=>(lm (adS Wg cs main w)).1) hD.2.1 ?_;obtain⟨t,LH,yq⟩:=HJ;have Rf:V2.own Wg=some (.cells #[.int .u64 (((0+1:Nat):Int)* KK),.int .u32 0] sm (0,0)):=by simp[V2,View.upd]
  refine C.step _ _ (bR.out hD.2.2.1) λw hw=>⟨BG Wg cs main,w,#[],V2,?_,.idle hw,?_⟩
  ·have hh:=hw.own Wg _ Rf;exact HC hD.2.2.2 LH HI yq (v:=.int .u32 0) (by simp[Uy,hh])
  refine C.said (g:=BG Wg cs main) (g':=BH Wg cs main) (a:=⟨Wg,1,none⟩) (bR.out (yr1 Wg cs main)) ⟨by show V2.own Wg≠none;rw[Rf];simp,hi 1⟩ (λw=>HB .read (λ_ _ h=>by cases h) (asq Wg cs main) ag8) ?_;have hE:=lm (Oj Wg cs main default);refine tV C 39 _ (λw=>(lm (Oj Wg cs main w)).1) hE.2.1 ?_;exact EI C hE.2.2.1 (λw=>(lm (Oj Wg cs main w)).2.2.2) (yG1 Wg cs main) zW.symm λfr hl=>hJ _ _ fr ⟨rfl,rfl⟩ hl
 ·have hE:=lm (Ol Wg cs main default);refine tV C 87 _ (λw=>(lm (Ol Wg cs main w)).1) hE.2.1 ?_;exact EI C hE.2.2.1 (λw=>(lm (Ol Wg cs main w)).2.2.2) (yG2 Wg cs main) zW.symm λfr hl=>hJ _ _ fr ⟨rfl,rfl⟩ hl
 ·have hE:=lm (Om Wg cs main default);refine tV C 87 _ (λw=>(lm (Om Wg cs main w)).1) hE.2.1 ?_;exact EI C hE.2.2.1 (λw=>(lm (Om Wg cs main w)).2.2.2) (yG3 Wg cs main) zW.symm λfr hl=>hJ _ _ fr ⟨rfl,rfl⟩ hl
 ·have hE:=lm (On Wg cs main default);refine tV C 87 _ (λw=>(lm (On Wg cs main w)).1) hE.2.1 ?_;exact EI C hE.2.2.1 (λw=>(lm (On Wg cs main w)).2.2.2) (yG4 Wg cs main) zW.symm λfr hl=>hJ _ _ fr ⟨rfl,rfl⟩ hl
end
section
variable {P:SJ}{main:Bool}{g:SG}{w:To}
def vo (g:SG):Option (TypeId×SQ):=match ready g with
 |some {op:=.load t x, .. }=>some (t,g.frame.eval x)
 |_=>none
theorem aqL{t:TypeId}{d:TypeDesc}{ad:U1}{v:SQ}(h:vo g=some (t,.pointer (some ad)))(ht:P.underlying t=some d)(hd:TypeDesc.agg d=false)(hq:(P.funcs[g.frame.fn]?).any (·.norace)=false)(hc:w.cell? ad=some v):
  stepG P main g w=.go (fin g v) w #[⟨.cell ad,false,false⟩]:=by
 obtain⟨o,x,h1,h2,h3⟩:∃o x,ready g=some o/\o.op=.load t x/\g.frame.eval x=.pointer (some ad):=by
  unfold vo at h;split at h
  ·rename_i s x _ _ _ _ ho;simp only[Tj,UY]at h;obtain⟨rfl,h⟩:=h;exact⟨_,x,ho,rfl,h⟩
  ·cases h
 obtain⟨b,a,ops,i,rest,kk,cs,e,q1,q2,q3,q4,q5,q6,_⟩:=ready.out h1;rw[<- q4]at h3;rw[<- q5];refine VL (congrArg (λx=>stepG P main x w) e) ?_;have e1:execOp a.eval o=(do let v<- Xx t (.pointer (some ad));pure (.value v)):=by
  unfold execOp;simp only[h2,h3]
 have e2:(isAgg t:Sem Bool).run P w=.ok false w/\∀es,(isAgg t:Sem Bool).events P w es=es:=by
  unfold isAgg Go.underlying;cases d<;>first
   |(exact(Bool.noConfusion hd))
   |(constructor<;>simp[go_sem,ht])
 have hr:(execOp a.eval o).run P w=.ok (.value v) w:=by
  rw[e1];simp[Xx,U7,loadVar,e2.1,hc]
 have cC:(execOp a.eval o).events P w #[]=#[⟨.cell ad,false,false⟩]:=by
  rw[e1];simp[Xx,U7,loadVar,e2.1,e2.2,hc]
 rw[at0 q1 q2 q3 hr];unfold listed;rw[cC,seen_eq (by rw[q6];exact hq) (by intro e he f;simp only[TJ,SL,S0,or_false]at he;rw[he];simp)]
def xF (g:SG):Option SQ:=match ready g with
 |some {op:=.call {callee:=.builtin .close,args, .. }, .. }=>match args.toList with
  |[x]=>some (g.frame.eval x)
  |_=>none
 |_=>none
theorem aqK{c cap s r:Nat}{ER:Array SQ}{tm:Bool}(h:xF g=some (.chan (some c)))(hq:(P.funcs[g.frame.fn]?).any (·.norace)=false)(hc:w.heap[c]?=some (.chan cap ER false s r tm)):
  stepG P main g w=.go (fin g (.tuple #[])) {w with heap:=w.heap.setIfInBounds c (.chan cap ER true s r tm)} #[⟨.obj c,false,true⟩,⟨.obj c,true,true⟩]:=by
 obtain⟨o,x,my,h1,h2,h3⟩:∃o x my,ready g=some o/\o.op=.call {callee:=.builtin .close,args:=#[x],argTypes:=my}/\g.frame.eval x=.chan (some c):=by
  unfold xF at h;split at h
  ·rename_i dst xs my ty pos af gd ho;split at h
   ·rename_i x hx;have:xs=#[x]:=(by apply VE;simpa using hx);subst this;exact⟨_,x,_,ho,rfl,by simpa using h⟩
   ·cases h
  ·cases h
 obtain⟨b,a,ops,i,rest,kk,cs,e,q1,q2,q3,q4,q5,q6,_⟩:=ready.out h1;rw[<- q4]at h3;rw[<- q5];refine VL (congrArg (λx=>stepG P main x w) e) ?_;exact stepG_close q1 q2 q3 h2 h3 hc (by rw[q6];exact hq)
end
section
variable (Wg fc c:Nat)
noncomputable def e0:SG:=born SC ⟨.fn (.func 100) #[pW Wg 0,pW fc 0],#[]⟩
noncomputable def e7:SG:=cJ SC false 7 (e0 Wg fc)
noncomputable def e8:SG:=fin (e7 Wg fc) (.tuple #[])
noncomputable def e27:SG:=cJ SC false 19 (e8 Wg fc)
noncomputable def f76 (h:SG)(v:Int):SG:=cJ SC false 48 (fin h (.int .u64 v))
noncomputable def MH (b:SG):SG:=cJ SC false 25 (fin b (.bool false))
noncomputable def f96 (b:SG):SG:=cJ SC false 19 (fin b (.bool true))
noncomputable def f97 (b:SG):SG:=fin (f96 b) (pW Wg 1)
noncomputable def f121 (b:SG):SG:=cJ SC false 23 (fin (f97 Wg b) (.tuple #[]))
noncomputable def f138 (b:SG):SG:=cJ SC false 16 (fin (f121 Wg b) (.tuple #[]))
noncomputable def f150 (b:SG):SG:=cJ SC false 11 (fin (f138 Wg b) (.int .u64 0))
noncomputable def f154 (b:SG):SG:=cJ SC false 3 (fin (f150 Wg b) (.tuple #[]))
noncomputable def f155 (b:SG):SG:=fin (f154 Wg b) (pW Wg 0)
noncomputable def f168 (b:SG):SG:=cJ SC false 12 (fin (f155 Wg b) (.tuple #[]))
noncomputable def f169 (b:SG):SG:=fin (f168 Wg b) (.chan (some c))
noncomputable def f170 (b:SG):SG:=fin (f169 Wg c b) (.tuple #[])
noncomputable def zb (h:SG):SG:=cJ SC false 31 (fin h (.int .u64 0))
noncomputable def Oo (h:SG):SG:=cJ SC false 3 (fin (zb h) (.tuple #[]))
noncomputable def vG (h:SG):SG:=fin (Oo h) (pW Wg 0)
noncomputable def Eg (h:SG):SG:=cJ SC false 22 (fin (vG Wg h) (.tuple #[]))
noncomputable def vH (h:SG):SG:=fin (Eg Wg h) (.chan (some c))
noncomputable def H6 (h:SG):SG:=fin (vH Wg c h) (.tuple #[])
noncomputable def hd:List Int->SG
 |[]=>e27 Wg fc
 |v::l=>MH (f76 (hd l) v)
noncomputable def bd (l:List Int)(v:Int):SG:=f76 (hd Wg fc l) v
noncomputable def fK (w:To)(n d:Nat)(g:SG):List ZB×Bool×Bool×Nat:=(gp SC false w n g,jk SC false n g,bR (cJ SC false n g),j9 SC false n d g)
noncomputable def fJ (w:To)(n d:Nat)(g:SG):List ZB×Bool×Bool×Nat:=(fV SC false w n g,true,true,d)
noncomputable def zM (w:To)(n:Nat)(g:SG):List ZB×Bool×GoStatus×Nat:=(gp SC false w n g,jk SC false n g,(cJ SC false n g).status,j9 SC false n 0 g)
noncomputable def zL (w:To)(n:Nat)(g:SG):List ZB×Bool×GoStatus×Nat:=(fV SC false w n g,true,.finished,0)
noncomputable def qU (g:SG):Bool:= !(SC.funcs[g.frame.fn]?).any (·.norace)
noncomputable def zT (w:To)(h:SG):=(cz h,bR h,fK w 31 1 (fin h (.int .u64 0)),cz (zb h),fK w 3 0 (fin (zb h) (.tuple #[])),pw (Oo h),cz (vG Wg h),bR (vG Wg h),fK w 22 0 (fin (vG Wg h) (.tuple #[])),vo (Eg Wg h),qU (Eg Wg h),xF (vH Wg c h),qU (vH Wg c h),bR (vH Wg c h),mayWake SC (vH Wg c h),zM w 4 (H6 Wg c h))
noncomputable def zR (w:To)(h:SG):=(some ((135:TO),#[pW Wg 0]),true,fJ w 31 1 (fin h (.int .u64 0)),some ((112:TO),(#[]:Array SQ)),fJ w 3 0 (fin (zb h) (.tuple #[])),some ((158:TypeId),(160:TypeId),pW Wg 0),some ((123:TO),#[pW Wg 0]),true,fJ w 22 0 (fin (vG Wg h) (.tuple #[])),some ((139:TypeId),pW fc 0),true,some (XN (some c)),true,true,true,zL w 4 (H6 Wg c h))
noncomputable def fT (w:To)(b:SG):=(cz b,bR b,fK w 25 1 (fin b (.bool false)),fK w 19 1 (fin b (.bool true)),pw (f96 b),cz (f97 Wg b),bR (f97 Wg b),fK w 23 1 (fin (f97 Wg b) (.tuple #[])),cz (f121 Wg b),(f121 Wg b).offers,fK w 16 1 (fin (f121 Wg b) (.tuple #[])),cz (f138 Wg b),fK w 11 1 (fin (f138 Wg b) (.int .u64 0)),cz (f150 Wg b),fK w 3 0 (fin (f150 Wg b) (.tuple #[])),pw (f154 Wg b),cz (f155 Wg b),bR (f155 Wg b),fK w 12 0 (fin (f155 Wg b) (.tuple #[])),vo (f168 Wg b),qU (f168 Wg b),xF (f169 Wg c b),qU (f169 Wg c b),bR (f169 Wg c b),mayWake SC (f169 Wg c b),zM w 4 (f170 Wg c b))
noncomputable def fR (w:To)(b:SG)(v:Int):=(some ((137:TO),#[pW Wg 0,.int .u64 v,.int .u64 (v+1)]),true,fJ w 25 1 (fin b (.bool false)),fJ w 19 1 (fin b (.bool true)),some ((165:TypeId),(160:TypeId),pW Wg 1),some ((126:TO),#[pW Wg 1]),true,fJ w 23 1 (fin (f97 Wg b) (.tuple #[])),some ((127:TO),#[pW Wg 1,.bool false]),(none:Option (Array CommCase×CommShape)),fJ w 16 1 (fin (f121 Wg b) (.tuple #[])),some ((135:TO),#[pW Wg 0]),fJ w 11 1 (fin (f138 Wg b) (.int .u64 0)),some ((112:TO),(#[]:Array SQ)),fJ w 3 0 (fin (f150 Wg b) (.tuple #[])),some ((158:TypeId),(160:TypeId),pW Wg 0),some ((123:TO),#[pW Wg 0]),true,fJ w 12 0 (fin (f155 Wg b) (.tuple #[])),some ((139:TypeId),pW fc 0),true,some (XN (some c)),true,true,true,zL w 4 (f170 Wg c b))
set_option maxRecDepth 100000
theorem c0(w:To):(fK w 7 0 (e0 Wg fc),cz (e7 Wg fc),fK w 19 1 (e8 Wg fc))=(fJ w 7 0 (e0 Wg fc),some ((111:TO),(#[]:Array SQ)),fJ w 19 1 (e8 Wg fc)):=by kernel_rfl
noncomputable def pT (w:To)(l:List Int)(v:Int):=(fK w 48 1 (fin (hd Wg fc l) (.int .u64 v)),fT Wg c w (bd Wg fc l v),zT Wg c w (hd Wg fc (v::l)))
noncomputable def pR (w:To)(l:List Int)(v:Int):=(fJ w 48 1 (fin (hd Wg fc l) (.int .u64 v)),fR Wg fc c w (bd Wg fc l v) v,zR Wg fc c w (hd Wg fc (v::l)))
theorem zz(w:To):zT Wg c w (hd Wg fc [])=zR Wg fc c w (hd Wg fc []):=by kernel_rfl
theorem Nr(w:To):pT Wg fc c w [] (4* 4294967296)=pR Wg fc c w [] (4* 4294967296):=by kernel_rfl
theorem Nq(w:To):pT Wg fc c w [4* 4294967296] (3* 4294967296)=pR Wg fc c w [4* 4294967296] (3* 4294967296):=by kernel_rfl
theorem Nn(w:To):pT Wg fc c w [3* 4294967296,4* 4294967296] (2* 4294967296)=pR Wg fc c w [3* 4294967296,4* 4294967296] (2* 4294967296):=by kernel_rfl
theorem Ng(w:To):pT Wg fc c w [2* 4294967296,3* 4294967296,4* 4294967296] (1* 4294967296)=pR Wg fc c w [2* 4294967296,3* 4294967296,4* 4294967296] (1* 4294967296):=by kernel_rfl
theorem Nj(w:To):pT Wg fc c w [3* 4294967296,4* 4294967296] (1* 4294967296)=pR Wg fc c w [3* 4294967296,4* 4294967296] (1* 4294967296):=by kernel_rfl
theorem No(w:To):pT Wg fc c w [4* 4294967296] (2* 4294967296)=pR Wg fc c w [4* 4294967296] (2* 4294967296):=by kernel_rfl
theorem Nh(w:To):pT Wg fc c w [2* 4294967296,4* 4294967296] (1* 4294967296)=pR Wg fc c w [2* 4294967296,4* 4294967296] (1* 4294967296):=by kernel_rfl
theorem Nk(w:To):pT Wg fc c w [4* 4294967296] (1* 4294967296)=pR Wg fc c w [4* 4294967296] (1* 4294967296):=by kernel_rfl
theorem Np(w:To):pT Wg fc c w [] (3* 4294967296)=pR Wg fc c w [] (3* 4294967296):=by kernel_rfl
theorem Nm(w:To):pT Wg fc c w [3* 4294967296] (2* 4294967296)=pR Wg fc c w [3* 4294967296] (2* 4294967296):=by kernel_rfl
theorem Nf(w:To):pT Wg fc c w [2* 4294967296,3* 4294967296] (1* 4294967296)=pR Wg fc c w [2* 4294967296,3* 4294967296] (1* 4294967296):=by kernel_rfl
theorem Ni(w:To):pT Wg fc c w [3* 4294967296] (1* 4294967296)=pR Wg fc c w [3* 4294967296] (1* 4294967296):=by kernel_rfl
theorem Nl(w:To):pT Wg fc c w [] (2* 4294967296)=pR Wg fc c w [] (2* 4294967296):=by kernel_rfl
theorem Nd(w:To):pT Wg fc c w [2* 4294967296] (1* 4294967296)=pR Wg fc c w [2* 4294967296] (1* 4294967296):=by kernel_rfl
theorem Nc(w:To):pT Wg fc c w [] (1* 4294967296)=pR Wg fc c w [] (1* 4294967296):=by kernel_rfl
end
section
variable {P:SJ}{Wg:Nat}{Stop:Nat->SG->Prop}
theorem P_{n d d':Nat}{g:SG}(h:∀w,fK w n d g=fJ w n d' g):(∀w,gp SC false w n g=fV SC false w n g)/\jk SC false n g=true/\bR (cJ SC false n g)=true/\j9 SC false n d g=d':=
 ⟨λw=>(eo (h w)).1,(eo (h default)).2.1,(eo (h default)).2.2.1,(eo (h default)).2.2.2⟩
theorem xJ{n d d':Nat}{g:SG}(h:∀w,fK w n d g=fJ w n d' g)(hs:∃m,cZ SC Stop m d' (cJ SC false n g)):∃m,cZ SC Stop m d g:=by
 obtain⟨h1,h2,_,h4⟩:=P_ h;exact w7 n d g h1 h2 (by rw[h4];exact hs)
theorem Ji{n d d':Nat}{g:SG}(h:∀w,fK w n d g=fJ w n d' g)(hs:∃m,iB SC Wg Stop m d' (cJ SC false n g)):∃m,iB SC Wg Stop m d g:=by
 obtain⟨h1,h2,_,h4⟩:=P_ h;exact acR n d g h1 h2 (by rw[h4];exact hs)
theorem ahx{n:Nat}{g:SG}(h:∀w,zM w n g=zL w n g):∃q,Y4 SC q 0 g:=
 Ho n 0 g (λw=>(eo (h w)).1) (eo (h default)).2.1 (Nw (eo (h default)).2.2.1 (eo (h default)).2.2.2)
theorem aqw{d:Nat}{g g':SG}{es:Array Ur}(hr:g.status=.running)(hm:∀e∈es,WF e=true)(h:∀w,stepG P false g w=.go g' w es)(hs:∃m,iB P Wg Stop m (deafBehind d es) g'):∃m,iB P Wg Stop m d g:=by
 obtain⟨m,gA⟩:=hs;exact⟨m+1,.inr ⟨hr,g',es,hm,λw _ _ _=>h w,gA⟩⟩
end
set_option maxRecDepth 100000
theorem t173:(SC.underlying 139).map TypeDesc.agg=some false:=by kernel_rfl
theorem Ny{g:SG}{o:Tu}(h:ready g=some o):bR g=true:=by
 obtain⟨_,_,_,_,_,_,_,_,_,_,_,_,_,_,hr⟩:=ready.out h;unfold bR;rw[hr]
theorem zC{g:SG}{f:TO}{vs:Array SQ}(h:cz g=some (f,vs)):bR g=true:=by
 obtain⟨_,_,_,h1,_,_⟩:=cz.out h;exact Ny h1
theorem PA{g:SG}{s d:TypeId}{v:SQ}(h:pw g=some (s,d,v)):bR g=true:=by
 unfold pw at h;split at h
 ·rename_i ho;exact Ny ho
 ·cases h
theorem amX{g:SG}{t:TypeId}{v:SQ}(h:vo g=some (t,v)):bR g=true:=by
 unfold vo at h;split at h
 ·rename_i ho;exact Ny ho
 ·cases h
section
variable {Wg fc c:Nat}{Im:cE}
theorem OL{n:Nat}{g:SG}(hi:Im fc 0=some (.chan (some c)))(h1:cz g=some (123,#[pW Wg 0])) (h3:∀w,fK w n 0 (fin g (.tuple #[]))=fJ w n 0 (fin g (.tuple #[])))
  (h4:vo (cJ SC false n (fin g (.tuple #[])))=some (139,pW fc 0)) (h5:qU (cJ SC false n (fin g (.tuple #[])))=true)
  (h6:xF (fin (cJ SC false n (fin g (.tuple #[]))) (.chan (some c)))=some (.chan (some c))) (h7:qU (fin (cJ SC false n (fin g (.tuple #[]))) (.chan (some c)))=true) (h8:bR (fin (cJ SC false n (fin g (.tuple #[]))) (.chan (some c)))=true)
  (h9:mayWake SC (fin (cJ SC false n (fin g (.tuple #[]))) (.chan (some c)))=true) (h10:∀w,zM w 4 (fin (fin (cJ SC false n (fin g (.tuple #[]))) (.chan (some c))) (.tuple #[]))=zL w 4 (fin (fin (cJ SC false n (fin g (.tuple #[]))) (.chan (some c))) (.tuple #[]))):uk SC Im c Wg 0 g:=by
 refine⟨rfl,bR.out (zC h1),_,λw=>HB .acquire (λ_ _ h=>by cases h) h1 aha,?_⟩;refine xJ h3 ⟨0,rfl,bR.out (amX h4),fc,0,_,_,hi,λw hc=> ?_,0,rfl,bR.out h8,h9,_,λw s hw=> ?_,ahx h10⟩
 ·obtain⟨d,cW,kV⟩:=Tp.1 t173;exact aqL h4 cW kV (by simpa[qU]using h5) hc
 ·exact aqK h6 (by simpa[qU]using h7) hw
theorem aaN{n1 n2:Nat}{g:SG}(h1:∀w,fK w n1 1 g=fJ w n1 1 g)(h2:cz (cJ SC false n1 g)=some (112,#[])) (h3:∀w,fK w n2 0 (fin (cJ SC false n1 g) (.tuple #[]))=fJ w n2 0 (fin (cJ SC false n1 g) (.tuple #[])))
  (h4:pw (cJ SC false n2 (fin (cJ SC false n1 g) (.tuple #[])))=some (158,160,pW Wg 0)) (h5:uk SC Im c Wg 0 (fin (cJ SC false n2 (fin (cJ SC false n1 g) (.tuple #[]))) (pW Wg 0))):∃n,iB SC Wg (uk SC Im c Wg) n 1 g:=by
 refine Ji h1 ?_;refine aqw (bR.out (zC h2)) (MR (.inr rfl)) (λw=>HA (λ_ h=>by cases h) h2 ag7) ?_;refine Ji (d:=deafBehind 1 #[⟨.mark .enable,false,true⟩]) h3 ?_;exact acS (bR.out (PA h4)) (λw x y hW=>HC h4 adC HI i182 hW.st.1) ⟨0,h5⟩
theorem asu{h:SG}(hi:Im fc 0=some (.chan (some c)))(H:∀w,zT Wg c w h=zR Wg fc c w h):cz h=some (135,#[pW Wg 0])/\∃n,iB SC Wg (uk SC Im c Wg) n 1 (fin h (.int .u64 0)):=by
 have key:∀w,cz h=some ((135:TO),#[pW Wg 0])/\bR h=true/\fK w 31 1 (fin h (.int .u64 0))=fJ w 31 1 (fin h (.int .u64 0))/\cz (zb h)=some ((112:TO),(#[]:Array SQ))/\fK w 3 0 (fin (zb h) (.tuple #[]))=fJ w 3 0 (fin (zb h) (.tuple #[]))/\pw (Oo h)=some ((158:TypeId),(160:TypeId),pW Wg 0)/\cz (vG Wg h)=some ((123:TO),#[pW Wg 0])/\bR (vG Wg h)=true/\fK w 22 0 (fin (vG Wg h) (.tuple #[]))=fJ w 22 0 (fin (vG Wg h) (.tuple #[]))/\vo (Eg Wg h)=some ((139:TypeId),pW fc 0)/\qU (Eg Wg h)=true/\xF (vH Wg c h)=some (XN (some c))/\qU (vH Wg c h)=true/\bR (vH Wg c h)=true/\mayWake SC (vH Wg c h)=true/\zM w 4 (H6 Wg c h)=zL w 4 (H6 Wg c h):=λw=>by
  have:=H w;unfold zT zR at this;simpa only[UY]using this
 obtain⟨k1,k2,_,k4,_,k6,k7,k8,_,Di,Me,AE,Mf,Dj,Mg,_⟩:=key default;refine⟨k1,aaN (n1:=31) (n2:=3) (λw=>(key w).2.2.1) k4 (λw=>(key w).2.2.2.2.1) k6 ?_⟩;exact OL (n:=22) hi k7 (λw=>(key w).2.2.2.2.2.2.2.2.1) Di Me AE Mf Dj Mg (λw=>(key w).2.2.2.2.2.2.2.2.2.2.2.2.2.2.2)
theorem agu{b:SG}{v:Nat}(hv:0<v)(hi:Im fc 0=some (.chan (some c)))(H:∀w,fT Wg c w b=fR Wg fc c w b ((v:Int)* 4294967296))(hm:∃n,cZ SC (eT SC Im c Wg v) n 1 (MH b)):Ei SC c Wg Im v 1 b:=by
 have key:∀w,cz b=some ((137:TO),#[pW Wg 0,.int .u64 ((v:Int)* 4294967296),.int .u64 ((v:Int)* 4294967296+1)])/\bR b=true/\fK w 25 1 (fin b (.bool false))=fJ w 25 1 (fin b (.bool false))/\fK w 19 1 (fin b (.bool true))=fJ w 19 1 (fin b (.bool true))/\pw (f96 b)=some ((165:TypeId),(160:TypeId),pW Wg 1)/\cz (f97 Wg b)=some ((126:TO),#[pW Wg 1])/\bR (f97 Wg b)=true/\fK w 23 1 (fin (f97 Wg b) (.tuple #[]))=fJ w 23 1 (fin (f97 Wg b) (.tuple #[]))/\cz (f121 Wg b)=some ((127:TO),#[pW Wg 1,.bool false])/\(f121 Wg b).offers=none/\fK w 16 1 (fin (f121 Wg b) (.tuple #[]))=fJ w 16 1 (fin (f121 Wg b) (.tuple #[]))/\cz (f138 Wg b)=some ((135:TO),#[pW Wg 0])/\fK w 11 1 (fin (f138 Wg b) (.int .u64 0))=fJ w 11 1 (fin (f138 Wg b) (.int .u64 0))/\cz (f150 Wg b)=some ((112:TO),(#[]:Array SQ))/\fK w 3 0 (fin (f150 Wg b) (.tuple #[]))=fJ w 3 0 (fin (f150 Wg b) (.tuple #[]))/\pw (f154 Wg b)=some ((158:TypeId),(160:TypeId),pW Wg 0)/\cz (f155 Wg b)=some ((123:TO),#[pW Wg 0])/\bR (f155 Wg b)=true/\fK w 12 0 (fin (f155 Wg b) (.tuple #[]))=fJ w 12 0 (fin (f155 Wg b) (.tuple #[]))/\vo (f168 Wg b)=some ((139:TypeId),pW fc 0)/\qU (f168 Wg b)=true/\xF (f169 Wg c b)=some (XN (some c))/\qU (f169 Wg c b)=true/\bR (f169 Wg c b)=true/\mayWake SC (f169 Wg c b)=true/\zM w 4 (f170 Wg c b)=zL w 4 (f170 Wg c b):=λw=>by
  have:=H w;unfold fT fR at this;simpa only[UY]using this
 obtain⟨k1,k2,_,_,k5,k6,k7,_,k9,Di,_,AE,_,Dj,_,Mh,Mi,k18,_,Mj,Mk,Ml,Mm,Mn,Mo,_⟩:=key default;refine⟨rfl,bR.out k2,⟨_,λw hW=>aqI k1 P5 hW.st.1 hW.st.2.2.1,?_⟩,λu hu=>⟨_,λw hW=>aqJ k1 P5 hW.st.1 hW.st.2.2.1 (λe=> ?_),?_⟩⟩
 ·refine Ji (λw=>(key w).2.2.2.1) ?_;have hs:SC.underlying 165=some (.pointer (HJ.choose))/\(SC.info? HJ.choose).map (λi=>decide (i.size=0))=some false:=HJ.choose_spec;refine acS (bR.out (PA k5)) (λw x y hW=>HC k5 hs.1 HI hs.2 hW.st.2.1) ⟨0,rfl,bR.out k7,_,λw=>HB .write (λ_ _ h=>by cases h) k6 ahb,?_⟩;refine xJ (λw=>(key w).2.2.2.2.2.2.2.1) ⟨0,rfl,bR.out (zC k9),Di,λw st hW=> ?_,fin (f121 Wg b) (.tuple #[]),λw hW=> ?_,?_⟩
  ·exact aqO k9 P3 hW.st.2.1
  ·exact aqM (n:=1) k9 P3 hW.st.2.1 (by decide) hW.st.2.2.2
  ·refine xJ (λw=>(key w).2.2.2.2.2.2.2.2.2.2.1) ⟨0,rfl,bR.out (zC AE),_,λw hW=>NR AE Ja hW.st.1,?_⟩;refine aaN (n1:=11) (n2:=3) (λw=>(key w).2.2.2.2.2.2.2.2.2.2.2.2.1) Dj (λw=>(key w).2.2.2.2.2.2.2.2.2.2.2.2.2.2.1) Mh ?_;exact OL (n:=12) hi Mi (λw=>(key w).2.2.2.2.2.2.2.2.2.2.2.2.2.2.2.2.2.2.1) Mj Mk Ml Mm Mn Mo (λw=>(key w).2.2.2.2.2.2.2.2.2.2.2.2.2.2.2.2.2.2.2.2.2.2.2.2.2)
 ·unfold KK at e;omega
 ·exact xJ (λw=>(key w).2.2.1) hm
theorem nf(hi:Im fc 0=some (.chan (some c))){h:SG}{k:Nat}(hz:∀w,zT Wg c w h=zR Wg fc c w h)
  (hv:∀v,0<v->v<=k->v<=4->(∀w,fK w 48 1 (fin h (.int .u64 ((v:Int)* 4294967296)))=fJ w 48 1 (fin h (.int .u64 ((v:Int)* 4294967296))))/\(∀w,fT Wg c w (f76 h ((v:Int)* 4294967296))=fR Wg fc c w (f76 h ((v:Int)* 4294967296)) ((v:Int)* 4294967296))/\eT SC Im c Wg v 1 (MH (f76 h ((v:Int)* 4294967296)))):eT SC Im c Wg (k+1) 1 h:=by
 obtain⟨z1,z2⟩:=asu hi hz;rw[eT];refine⟨rfl,bR.out (zC z1),λv h1 h2=> ?_⟩;refine⟨_,λw hW=>NR z1 Ja hW.st.1,λe=> ?_,λe=> ?_⟩
 ·subst e;exact z2
 ·obtain⟨q1,q2,q3⟩:=hv v (by omega) h1 h2;exact xJ q1 ⟨0,agu (by omega) hi q2 ⟨0,q3⟩⟩
theorem dY{l:List Int}{v:Int}(h:∀w,pT Wg fc c w l v=pR Wg fc c w l v):(∀w,fK w 48 1 (fin (hd Wg fc l) (.int .u64 v))=fJ w 48 1 (fin (hd Wg fc l) (.int .u64 v)))/\(∀w,fT Wg c w (bd Wg fc l v)=fR Wg fc c w (bd Wg fc l v) v)/\(∀w,zT Wg c w (hd Wg fc (v::l))=zR Wg fc c w (hd Wg fc (v::l))):=by
 refine⟨λw=>(WW (h w)).1,λw=>(WW (WW (h w)).2).1,λw=>(WW (WW (h w)).2).2⟩
end
section
variable (Wg fc c:Nat){Im:cE}
theorem ak8(hi:Im fc 0=some (.chan (some c))):eT SC Im c Wg 1 1 (hd Wg fc [1* 4294967296]):=by
 refine nf (k:=0) hi (dY (Nc Wg fc c)).2.2 λv h1 h2 h3=> ?_;omega
theorem ak9(hi:Im fc 0=some (.chan (some c))):eT SC Im c Wg 1 1 (hd Wg fc [1* 4294967296,2* 4294967296]):=by
 refine nf (k:=0) hi (dY (Nd Wg fc c)).2.2 λv h1 h2 h3=> ?_;omega
theorem alg(hi:Im fc 0=some (.chan (some c))):eT SC Im c Wg 2 1 (hd Wg fc [2* 4294967296]):=by
 refine nf (k:=1) hi (dY (Nl Wg fc c)).2.2 λv h1 h2 h3=> ?_;rcases(show v=1 by omega)with rfl
 ·exact⟨(dY (Nd Wg fc c)).1,(dY (Nd Wg fc c)).2.1,ak9 Wg fc c hi⟩
theorem ald(hi:Im fc 0=some (.chan (some c))):eT SC Im c Wg 1 1 (hd Wg fc [1* 4294967296,3* 4294967296]):=by
 refine nf (k:=0) hi (dY (Ni Wg fc c)).2.2 λv h1 h2 h3=> ?_;omega
theorem ala(hi:Im fc 0=some (.chan (some c))):eT SC Im c Wg 1 1 (hd Wg fc [1* 4294967296,2* 4294967296,3* 4294967296]):=by
 refine nf (k:=0) hi (dY (Nf Wg fc c)).2.2 λv h1 h2 h3=> ?_;omega
theorem alh(hi:Im fc 0=some (.chan (some c))):eT SC Im c Wg 2 1 (hd Wg fc [2* 4294967296,3* 4294967296]):=by
 refine nf (k:=1) hi (dY (Nm Wg fc c)).2.2 λv h1 h2 h3=> ?_;rcases(show v=1 by omega)with rfl
 ·exact⟨(dY (Nf Wg fc c)).1,(dY (Nf Wg fc c)).2.1,ala Wg fc c hi⟩
theorem alk(hi:Im fc 0=some (.chan (some c))):eT SC Im c Wg 3 1 (hd Wg fc [3* 4294967296]):=by
 refine nf (k:=2) hi (dY (Np Wg fc c)).2.2 λv h1 h2 h3=> ?_;rcases(show v=1\/v=2 by omega)with rfl|rfl
 ·exact⟨(dY (Ni Wg fc c)).1,(dY (Ni Wg fc c)).2.1,ald Wg fc c hi⟩
 ·exact⟨(dY (Nm Wg fc c)).1,(dY (Nm Wg fc c)).2.1,alh Wg fc c hi⟩
theorem alf(hi:Im fc 0=some (.chan (some c))):eT SC Im c Wg 1 1 (hd Wg fc [1* 4294967296,4* 4294967296]):=by
 refine nf (k:=0) hi (dY (Nk Wg fc c)).2.2 λv h1 h2 h3=> ?_;omega
theorem alc(hi:Im fc 0=some (.chan (some c))):eT SC Im c Wg 1 1 (hd Wg fc [1* 4294967296,2* 4294967296,4* 4294967296]):=by
 refine nf (k:=0) hi (dY (Nh Wg fc c)).2.2 λv h1 h2 h3=> ?_;omega
theorem alj(hi:Im fc 0=some (.chan (some c))):eT SC Im c Wg 2 1 (hd Wg fc [2* 4294967296,4* 4294967296]):=by
 refine nf (k:=1) hi (dY (No Wg fc c)).2.2 λv h1 h2 h3=> ?_;rcases(show v=1 by omega)with rfl
 ·exact⟨(dY (Nh Wg fc c)).1,(dY (Nh Wg fc c)).2.1,alc Wg fc c hi⟩
theorem ale(hi:Im fc 0=some (.chan (some c))):eT SC Im c Wg 1 1 (hd Wg fc [1* 4294967296,3* 4294967296,4* 4294967296]):=by
 refine nf (k:=0) hi (dY (Nj Wg fc c)).2.2 λv h1 h2 h3=> ?_;omega
theorem alb(hi:Im fc 0=some (.chan (some c))):eT SC Im c Wg 1 1 (hd Wg fc [1* 4294967296,2* 4294967296,3* 4294967296,4* 4294967296]):=by
 refine nf (k:=0) hi (dY (Ng Wg fc c)).2.2 λv h1 h2 h3=> ?_;omega
theorem ali(hi:Im fc 0=some (.chan (some c))):eT SC Im c Wg 2 1 (hd Wg fc [2* 4294967296,3* 4294967296,4* 4294967296]):=by
 refine nf (k:=1) hi (dY (Nn Wg fc c)).2.2 λv h1 h2 h3=> ?_;rcases(show v=1 by omega)with rfl
 ·exact⟨(dY (Ng Wg fc c)).1,(dY (Ng Wg fc c)).2.1,alb Wg fc c hi⟩
theorem alm(hi:Im fc 0=some (.chan (some c))):eT SC Im c Wg 3 1 (hd Wg fc [3* 4294967296,4* 4294967296]):=by
 refine nf (k:=2) hi (dY (Nq Wg fc c)).2.2 λv h1 h2 h3=> ?_;rcases(show v=1\/v=2 by omega)with rfl|rfl
 ·exact⟨(dY (Nj Wg fc c)).1,(dY (Nj Wg fc c)).2.1,ale Wg fc c hi⟩
 ·exact⟨(dY (Nn Wg fc c)).1,(dY (Nn Wg fc c)).2.1,ali Wg fc c hi⟩
theorem aln(hi:Im fc 0=some (.chan (some c))):eT SC Im c Wg 4 1 (hd Wg fc [4* 4294967296]):=by
 refine nf (k:=3) hi (dY (Nr Wg fc c)).2.2 λv h1 h2 h3=> ?_;rcases(show v=1\/v=2\/v=3 by omega)with rfl|rfl|rfl
 ·exact⟨(dY (Nk Wg fc c)).1,(dY (Nk Wg fc c)).2.1,alf Wg fc c hi⟩
 ·exact⟨(dY (No Wg fc c)).1,(dY (No Wg fc c)).2.1,alj Wg fc c hi⟩
 ·exact⟨(dY (Nq Wg fc c)).1,(dY (Nq Wg fc c)).2.1,alm Wg fc c hi⟩
theorem hq_(hi:Im fc 0=some (.chan (some c))):eT SC Im c Wg 5 1 (hd Wg fc []):=by
 refine nf (k:=4) hi (zz Wg fc c) λv h1 h2 h3=> ?_;rcases(show v=1\/v=2\/v=3\/v=4 by omega)with rfl|rfl|rfl|rfl
 ·exact⟨(dY (Nc Wg fc c)).1,(dY (Nc Wg fc c)).2.1,ak8 Wg fc c hi⟩
 ·exact⟨(dY (Nl Wg fc c)).1,(dY (Nl Wg fc c)).2.1,alg Wg fc c hi⟩
 ·exact⟨(dY (Np Wg fc c)).1,(dY (Np Wg fc c)).2.1,alk Wg fc c hi⟩
 ·exact⟨(dY (Nr Wg fc c)).1,(dY (Nr Wg fc c)).2.1,aln Wg fc c hi⟩
theorem agA(hi:Im fc 0=some (.chan (some c))):H_ SC Im c Wg (born SC ⟨.fn (.func 100) #[pW Wg 0,pW fc 0],#[]⟩):=by
 have h0:∀w,fK w 7 0 (e0 Wg fc)=fJ w 7 0 (e0 Wg fc)/\cz (e7 Wg fc)=some ((111:TO),(#[]:Array SQ))/\fK w 19 1 (e8 Wg fc)=fJ w 19 1 (e8 Wg fc):=λw=>by
  have:=c0 Wg fc w;simpa only[UY]using this
 show ∃n,cZ SC (eT SC Im c Wg 5) n 0 (e0 Wg fc);refine xJ (λw=>(h0 w).1) ?_;refine NN (bR.out (zC (h0 default).2.1)) (MR (.inl rfl)) (λw=>HA (λ_ h=>by cases h) (h0 default).2.1 I_) ?_;exact xJ (d:=deafBehind 0 #[⟨.mark .disable,false,true⟩]) (λw=>(h0 w).2.2) ⟨0,hq_ Wg fc c hi⟩
end
open Go.Gg.Tk
section
variable {lv:Bool}{P:SJ}{r:Option Nat}{nt:Nat}{E:Env}{V:View}{a:Act}{s:AS}{c:Ua}{Q:Ex->Act->View->Prop}
theorem zy(s3:AS)(ah:At E V s a nt)(h:aQ lv P r nt c s (λe s'=>match e with|.normal=>s'.Sub s3|_=>False))(hQ:∀E' V' a',Kept E E' V V' a a'->At E' V' s3 a' nt->Q .normal a' V'):WP lv P r c Q a V:=
 h E V a Q ah λae e E' V' a' s' hk aV he hΦ=>by
  cases ae<;>cases e<;>first
   |exact he.elim
   |exact hΦ.elim
   |exact hQ E' V' a' hk (aV.sub hΦ)
theorem unwind_mark{lv:Bool}{P:SJ}{main:Bool}{J:View->SG->Prop}(C:Closed lv P main J){V:View}{fr:Uc}{cs:List Uc}{b:Nat}{ds:List UW}(h4:fr.defers={target:=.collected b,args:=#[]}::ds) (hm:(fr.mode matches .run)=false) (ho:V.own b=some (.deferred (some []))) (fx:V.role.chan≠some b) (h:J (V.upd b (.deferred none)) (G {fr with defers:=ds} cs)):J V (G fr cs):=by
 refine C.step _ _ rfl λw hw=> ?_;obtain⟨es,w',V',k1,k2,k3⟩:=(NI (P:=P) ho fx).runs hw;rcases k3 with⟨x,k3,rfl,rfl⟩|⟨_,_,hx⟩
 ·refine⟨G {fr with defers:=ds} cs,w',seen P fr.fn es,_,?_,k1.seen P fr.fn,h⟩;have e:stepG P main (G fr cs) w=unwind P main fr cs none w:=by
   obtain⟨fn,tmps,todo,defers,mode,kind,ro⟩:=fr;cases mode with
   |run=>cases hm
   |returning=>simp[G,stepG]
   |panicking ch=>simp[G,stepG]
  rw[e];simp only[unwind,h4];simp[TA,k3,k2,T5,G]
 ·exact hx.elim
theorem eE{s s':AS}(h:∀p∈s'.T,∃b,look s.T p.1=some b/\Wk b p.2)(hH:s.H=s'.H):s.Sub s':=⟨λ_ _ e=>h _ (oX e),hH⟩
theorem uA{E:Env}{x v:SQ}(h:ap E (.val x) v):v=x:=by cases h;rfl
theorem EW{E:Env}{cs:Array SQ}(h:cP E [] cs):cs=#[]:=Array.size_eq_zero_iff.1 h.1
theorem PP{E:Env}{l:List SQ}{cs:Array SQ}(h:cP E (l.map .val) cs):cs=l.toArray:=by
 have hs:cs.size=l.length:=by simpa using h.1
 refine Array.ext hs λi h1 h2=> ?_;have hi:i<l.length:=by simpa using h2
 have:=uA (h.2 i (.val l[i]) (by simp[SO hi]));rw[SH,SK h1]at this;simpa using this
def sj (K:Kn)(b:Nat):List SQ:=.bool K.has:: .map (some b)::(K.aA.map (λn:Nat=>SF .u16 n)++(K.hours.map (λn:Nat=>SF .u16 n)++(K.less.map (λn:Nat=>SF .u16 n)++(K.aX.map (λn:Nat=>SF .u16 n)++K.first.map (SF .i64)))))
def si (K:Kn):Obj:=.map (K.aK.zipIdx.map eO).toArray K.aK.length
theorem agP{E:Env}{K:Kn}{mp:Nat}{v:SQ}(h:ap E (.agg (K.l mp)) v):v=.agg (sj K (E.blk mp)).toArray:=by
 cases h with
 |agg hs h=>
  rename_i cs;congr 1;have hl:(K.l mp).length=(sj K (E.blk mp)).length:=by simp[Kn.l,sj]
  have key:∀(i:Nat)(x:AV),(K.l mp)[i]?=some x->∀y,ap E x y->(sj K (E.blk mp))[i]?=some y:=by
   intro i x hx y hy
   match i with
   |0=>cases hx;rw[uA hy];rfl
   |1=>cases hx;cases hy;rfl
   |i+2=>
    have e:(K.l mp)[i+2]?=((K.aA.map (λn:Nat=>SF .u16 n)++(K.hours.map (λn:Nat=>SF .u16 n)++(K.less.map (λn:Nat=>SF .u16 n)++(K.aX.map (λn:Nat=>SF .u16 n)++K.first.map (SF .i64))))).map AV.val)[i]?:=by
     simp[Kn.l,wv,iv,Yu]
    rw[e,Tn]at hx;obtain⟨z,h1,rfl⟩:=Tp.1 hx;rw[uA hy];exact h1
  have pQ:cs.size=(sj K (E.blk mp)).length:=hs.trans hl;refine Array.ext pQ λi h1 h2=> ?_;have hi:i<(K.l mp).length:=by omega
  have:=key i _ (SO hi) _ (h i _ (SO hi));rw[SH,SK h1]at this;have h3:(sj K (E.blk mp)).toArray[i]?=some cs[i]:=by simpa using this
  rw[SK h2]at h3;exact(Vj h3).symm
def qZ (x:aj)(deep:Int)(bh:Nat):Spec:=λv _ Ow=>∃b,v=.agg (sj (h_ x deep bh) b).toArray/\∀b',Ow b'=if b'=b then some (si (h_ x deep bh))else none
set_option maxRecDepth 100000 in
theorem aoC:SC.funcs.size=184:=by kernel_rfl
theorem Oc{x:aj}{deep:Int}{bh:Nat}(hx:x.Ok)(hA:∀h∈kZ x bh,mY h/\∀ns∈gD x h,∀a∈(iK x h ns).map (dH h ns),jK x a):bS (h_ x deep bh):=by
 unfold h_;refine JK hx (λt ht=> ?_) Dk;obtain⟨h,h1,h2⟩:=S6.1 ht;obtain⟨ns,h3,h4⟩:=N6 h2;exact(hA h h1).2 ns h3 t h4
theorem ash{J:View->SG->Prop}(C:zd SC false J){E:Env}{V:View}{x:aj}{bh c Wg:Nat}{deep:Int}{rv tv dv fv:SQ}(hx:x.Ok)(me:bh<=3)(hA:∀h∈kZ x bh,mY h/\∀ns∈gD x h,∀a∈(iK x h ns).map (dH h ns),jK x a)(aj5:Conc E V [])
  (hr:ap E (.rp x.l) rv) (ht:ap E (.rp [iv bh]) tv) (hd:ap E (.rp [iv deep]) dv) (hf:ap E (.rp [.val (.chan (some c))]) fv) (cp:V.role=.work c Wg [qZ x deep bh]) (fy:V.deaf=0):J V (born SC ⟨.fn (.func 97) #[pW Wg 0,rv,tv,dv,fv],#[]⟩):=by
 have C':Closed false SC false J:={C with more:=λh=>by cases h};unfold born;rw[aoC];refine adF C' (fr:={(default:Uc)with fn:=184,defers:=[⟨.fn (.func 97) #[pW Wg 0,rv,tv,dv,fv],#[]⟩],mode:=.panicking [goexitEntry]}) (ds:=[]) rfl rfl (by kernel_rfl) ?_;refine ahl (Q:=λa' V'=>∃b,a'.defers=[{target:=.collected b,args:=#[]},⟨.fn (.func 98) #[],#[pW Wg 0]⟩]/\V'.own b=some (.deferred (some []))/\V'.role=.work c Wg []/\V'.deaf=0) C' (by simp) F.f97 rfl ?_ ?_
 rotate_left
 ·rintro a' V' todo ⟨b,h1,h0,h2,h3⟩
  refine unwind_mark C' (ds:=[⟨.fn (.func 98) #[],#[pW Wg 0]⟩]) h1 rfl h0 (by rw[h2];simp[nA.chan]) ?_;refine adF C' (ds:=[]) rfl rfl (by kernel_rfl) ?_;exact ag0 Wg a'.tmps todo C h2 h3
 have cS:cP E [.val (pW Wg 0),.rp x.l,.rp [iv bh],.rp [iv deep],.rp [.val (.chan (some c))]] (#[]++#[pW Wg 0,rv,tv,dv,fv]):=by
  refine⟨rfl,λi a e=> ?_⟩
  match i,e with
  |0,e=>cases e;exact .val _
  |1,e=>cases e;exact hr
  |2,e=>cases e;exact ht
  |3,e=>cases e;exact hd
  |4,e=>cases e;exact hf
 have ah:=BU (nt:=25) aj5 cS (by simp);simp only[bt,SX]at ah;refine wp_seq ?_;refine(Pa (nt:=25) (n:=0) (ds:=[]) (Φ:=λe s' nM=>e=.normal/\s'=⟨[(0,.val (pW Wg 0)),(1,.rp x.l),(2,.rp [iv bh]),(3,.rp [iv deep]),(4,.rp [.val (.chan (some c))])],[]⟩/\nM=[(.fn (.func 98) [] [],[.val (pW Wg 0)])]) rfl rfl rfl rfl rfl rfl (by kernel_rfl) ?_) E V _ _ ah trivial λae e E1 V1 a1 s1 ds1 iP we cW CG h1=> ?_
 ·(try simp only[seval]);exact⟨_,_,_,rfl⟩
 obtain⟨rfl,rfl,rfl⟩:=h1;cases e<;>first
  |exact CG.elim
  |skip
 have ake:a1.defers=[⟨.fn (.func 98) #[],#[pW Wg 0]⟩]:=by
  match jw:a1.defers,cW with
  |[d],cW=>
   obtain⟨⟨f,first,c9,fa,ca,vs,q1,rfl,q3,q4,q5⟩,_⟩:=cW;cases q1;rw[EW q3,EW q4,PP (l:=[pW Wg 0]) q5];rfl
  |[],cW=>exact cW.elim
  |_::_::_,cW=>exact cW.2.elim
 refine wp_seq ?_;refine zy ⟨[(5,.op 1 0),(0,.val (pW Wg 0)),(1,.rp x.l),(2,.rp [iv bh]),(3,.rp [iv deep]),(4,.rp [.val (.chan (some c))])],[setH [],.cells (Kn.zero.l 0) 88]⟩ we ?_ λE2 V2 a2 cM uK=> ?_
 ·refine ak ?_;exact eE (by simp only[seval];simp[bw,Wk.refl]) rfl
 refine wp_seq (wp_seq ?_);refine zy ⟨vf x bh deep c (pW Wg 0),wM x bh Kn.zero⟩ uK ?_ λE3 V3 a3 wz qA=> ?_
 ·have bT:x.l=[iv x.first,iv x.hours,iv x.am,dP x.seen,aS x.pieces,aS x.aB]:=rfl;refine ai ?_;simp only[seval,bT];refine aI ((Jt (x:=x) (n:=bh) ?_));(try simp only[seval]);exact eE (by unfold vf;simp only[seval];simp[bw,Wk.refl];exact Wk.refl _) rfl
 have akf:a3.defers=[⟨.fn (.func 98) #[],#[pW Wg 0]⟩]:=wz.defers.trans (cM.defers.trans ake);have alo:V3.role=.work c Wg [qZ x deep bh]:=wz.role.trans (cM.role.trans (iP.role.trans cp));have aj9:V3.deaf=0:=wz.deaf.trans (cM.deaf.trans (iP.deaf.trans fy));refine al2 (lv:=false) (bs:=[⟨.fn (.func 98) #[],#[pW Wg 0]⟩]) hx me hA (λe s' cI=>e=.normal/\s'=⟨vf x bh deep c (pW Wg 0),wM x bh (h_ x deep bh)++[.obj (.deferred (some [])),.gone]⟩/\cI=[4]) ⟨rfl,rfl,rfl⟩ E3 V3 a3 _ qA ⟨by simp[akf],by simp⟩ λae e E4 V4 a4 s4 ms4 pK rN akI he4 hΦ4=> ?_;obtain⟨rfl,rfl,rfl⟩:=hΦ4;cases e<;>first
  |exact he4.elim
  |skip
 have akg:a4.defers=[{target:=.collected (E4.blk 4),args:=#[]},⟨.fn (.func 98) #[],#[pW Wg 0]⟩]:=akI.1;have alp:V4.role=.work c Wg [qZ x deep bh]:=pK.role.trans alo;have RE:V4.deaf=0:=pK.deaf.trans aj9;have xX:bS (h_ x deep bh):=Oc hx hA;generalize hW:h_ x deep bh=W at rN xX;have FB:=Kn.len xX 0;refine HS (K:=λs'=>look s'.T 23=some (.val (.chan (some c)))/\look s'.T 24=some (.agg (W.l 0))/\s'.Sub ⟨vf x bh deep c (pW Wg 0),wM x bh W++[.obj (.deferred (some [])),.gone]⟩) 2 1 rfl (by kernel_rfl) rN ?_ λE5 V5 a5 s5 gN kF hK=> ?_
 ·unfold vf wM;(try simp only[seval,FB]);rw[SS (i:=28) (by omega)];exact⟨rfl,eE (by simp only[seval];simp[bw,Wk.refl]) rfl⟩
 obtain⟨l23,l24,mc⟩:=hK;have FF:=kF.sub mc;have e23:a5.eval (.tmp 23)=.chan (some c):=uA (kF.tok _ _ l23).2;have e24:a5.eval (.tmp 24)=.agg (sj W (E5.blk 0)).toArray:=agP (kF.tok _ _ l24).2;have h0:V5.own (E5.blk 0)=some (si W):=(FF.bu.obj 0 (setH W.aK) rfl).1;have h4:V5.own (E5.blk 4)=some (.deferred (some [])):=(FF.bu.obj 4 (.obj (.deferred (some []))) rfl).1;have aG:E5.blk 4≠E5.blk 0:=λe=>by rw[e,h0]at h4;cases h4
 have hb4:E5.blk 4=E4.blk 4:=gN.le.blk 4 (by rw[rN.bu.n];simp[wM]);refine Og rfl rfl ?_;refine⟨c,Wg,qZ x deep bh,[],λb=>decide (b=E5.blk 0),e23,by rw[gN.role];exact alp,gN.deaf.trans RE,⟨E5.blk 0,by rw[hW];exact e24,λb'=> ?_⟩,?_⟩
 ·rw[hW];by_cases hb:b'=E5.blk 0
  ·subst hb;simp[h0]
  ·simp[hb]
 ·refine⟨trivial,E5.blk 4,?_,?_,rfl,gN.deaf.trans RE⟩
  ·rw[hb4];exact gN.defers.trans akg
  ·show (if decide (E5.blk 4=E5.blk 0)=true then none else V5.own (E5.blk 4))=_;rw[if_neg (by simpa using aG)];exact h4
theorem aog(r:Option Nat):AV.parts (.val (.chan r))=some [.val (.chan r)]:=rfl
theorem asx(r:Option Nat):mr (.chan r)=[.val (.chan r)]:=rfl
theorem amp(r:Option Nat):AV.leaf (.val (.chan r))=true:=rfl
theorem Od{x y:Ua}{t:Nat}{b:Bool}(ah:At E V s a nt)(hl:look s.T t=some (.val (.bool b)))(h:WP lv P r (if b then x else y) Q a V):WP lv P r (.cond (.tmp t) x y) Q a V:=by
 have hd:=(ah.tok t _ hl).2;generalize hx:a.tmps.getD t undef=v at hd;cases hd;exact wp_cond (t:=b) hx h
end
theorem PL{E:Env}{f:Fn}{first c9:List AV}{v:SQ}(h:ap E (.fn f first c9) v):∃fa ca,v=.func f fa ca/\cP E first fa/\cP E c9 ca:=by
 cases h with
 |fn dN gB h1 h2=>exact⟨_,_,rfl,⟨dN,h1⟩,⟨gB,h2⟩⟩
theorem B3{E:Env}{i o:Nat}{v:SQ}(h:ap E (.op i o) v):v=.pointer (some ⟨E.blk i,o,none⟩):=by cases h;rfl
theorem GN(x:aj)(n:Nat):∀a∈x.l,Lt n a:=by
 intro a ha;simp only[aj.l,SL,S0,or_false]at ha;rcases ha with rfl|rfl|rfl|rfl|rfl|rfl
 ·exact .val _
 ·exact .val _
 ·exact .val _
 ·rw[aa6];trivial
 ·rw[GM];trivial
 ·rw[GM];trivial
theorem am6(x:aj):Lt 0 (.rp x.l):=by
 rw[yJ];exact GN x 0
set_option maxRecDepth 100000 in
theorem wgT:N_ SC=147:=by kernel_rfl
def ci:Ua->Ua
 |.block _ c|.loop c|.scope c=>c
 |_=> .skip
noncomputable def vg:Ua:=XK.body.getD .skip
noncomputable def mN:Ua:=cs (cs (cs vg))
def s9:Obj:=.chan 0 #[] false 0 0 false
def jH:List AV:=bv false:: .val (.map none)::(TG 15 (wv 0)++TG 11 (iv 0))
def dC (x:aj)(deep:Int)(c:Nat):List aa:=[.part 6 x.l 76,.part 1 [iv deep] 3,.cells jH 88,.part 1 [.val (.chan (some c))] 139,.gone]
structure jJ (x:aj)(deep:Int)(Hs:List aa)(E:Env)(c Wg:Nat)(rv dv fv:SQ)(T:List (Nat×AV))(M:List aa)(E':Env)(V':View)(a':Act):Prop where
 ah:At E' V' ⟨T,Hs++(dC x deep c++M)⟩ a' 35
 lo:E.Lo E'
 main:E'.main=false
 defers:a'.defers=[]
 deaf:V'.deaf=0
 er:rv=.pointer (some ⟨E'.blk Hs.length,0,none⟩)
 ed:dv=.pointer (some ⟨E'.blk (Hs.length+1),0,none⟩)
 ef:fv=.pointer (some ⟨E'.blk (Hs.length+3),0,none⟩)
 dr:ap E' (.rp x.l) rv
 dd:ap E' (.rp [iv deep]) dv
 df:ap E' (.rp [.val (.chan (some c))]) fv
 fr:∀b y,E.fr b=some y->E'.fr b=some y/\b≠c/\b≠Wg
 ne:c≠Wg
section
variable {x:aj}{deep:Int}{Hs:List aa}{E:Env}{c Wg:Nat}{rv dv fv:SQ}{T T':List (Nat×AV)}{M M' G:List aa}{E1 E2:Env}{V1 V2:View}{a1 a2:Act}
theorem jJ.HD(h:jJ x deep Hs E c Wg rv dv fv T M E1 V1 a1)(le:E1.Le E2)(bC:a2.defers=a1.defers)(fy:V2.deaf=V1.deaf)(ah:At E2 V2 ⟨T',Hs++(dC x deep c++M')⟩ a2 35):jJ x deep Hs E c Wg rv dv fv T' M' E2 V2 a2:=by
 have hl:∀i,i<5->Hs.length+i<E1.n:=λi hi=>by rw[h.ah.bu.n];simp[dC];omega
 exact⟨ah,h.lo.trans le.lo,le.main.trans h.main,bC.trans h.defers,fy.trans h.deaf,by have:=le.blk _ (hl 0 (by omega));rw[UD]at this;rw[this];exact h.er,by rw[le.blk _ (hl 1 (by omega))];exact h.ed,by rw[le.blk _ (hl 3 (by omega))];exact h.ef,h.dr.mono le,h.dd.mono le,h.df.mono le,λb y e=>by rw[le.fr];exact h.fr b y e,h.ne⟩
theorem jJ.step(h:jJ x deep Hs E c Wg rv dv fv T M E1 V1 a1)(hk:Kept E1 E2 V1 V2 a1 a2)(ah:At E2 V2 ⟨T',Hs++(dC x deep c++M')⟩ a2 35):jJ x deep Hs E c Wg rv dv fv T' M' E2 V2 a2:=h.HD hk.le hk.defers hk.deaf ah
theorem jJ.to(T':List (Nat×AV))(M':List aa)(h:jJ x deep Hs E c Wg rv dv fv T M E1 V1 a1){cd:Ua}{Q:Ex->Act->View->Prop}(hw:aQ true SC none 35 cd ⟨T,Hs++(dC x deep c++M)⟩ (λe s'=>match e with|.normal=>s'.Sub ⟨T',Hs++(dC x deep c++M')⟩|_=>False))
  (hQ:∀E2 V2 a2,Kept E1 E2 V1 V2 a1 a2->jJ x deep Hs E c Wg rv dv fv T' M' E2 V2 a2->Q .normal a2 V2):WP true SC none cd Q a1 V1:=
 zy ⟨T',Hs++(dC x deep c++M')⟩ h.ah hw λE2 V2 a2 hk ah=>hQ E2 V2 a2 hk (h.step hk ah)
theorem jJ.cut(h:jJ x deep Hs E c Wg rv dv fv T (M++G) E1 V1 a1)(hE:E.n<=Hs.length)(hT:∀p∈T',∃b,look T p.1=some b/\Wk b p.2/\Lt (Hs.length+5+M.length) p.2)(au:bM (Hs++(dC x deep c++M))):jJ x deep Hs E c Wg rv dv fv T' M {E1 with n:=Hs.length+5+M.length} V1 a1:=by
 have hlen:(Hs++(dC x deep c++M)).length=Hs.length+5+M.length:=by simp[dC];omega
 have hc:=h.ah.cut (s':=⟨T',Hs++(dC x deep c++M)⟩) ⟨λt a e=>by
  obtain⟨b,h1,h2,h3⟩:=hT _ (oX e);exact⟨b,h1,h2,by rw[hlen];exact h3⟩,⟨G,by simp⟩,au⟩
 simp only[hlen]at hc;exact⟨hc,h.lo.cut (by omega),h.main,h.defers,h.deaf,h.er,h.ed,h.ef,h.dr.trim (by rw[yJ];exact GN x _),h.dd.trim (by simp[yJ,fe]),h.df.trim (by simp[yJ,fe]),h.fr,h.ne⟩
theorem aaM(hH:bM Hs)(hM:∀z∈M,fh (Hs.length+5+M.length) z):bM (Hs++(dC x deep c++M)):=by
 intro y hy;have hlen:(Hs++(dC x deep c++M)).length=Hs.length+5+M.length:=by simp[dC];omega
 rw[hlen];rcases SV.1 hy with h|h
 ·exact(hH y h).mono (by omega)
 ·rcases SV.1 h with h|h
  ·simp only[dC,SL,S0,or_false]at h;rcases h with rfl|rfl|rfl|rfl|rfl
   ·exactλa ha=>GN x _ a ha
   ·intro a ha;simp at ha;subst ha;exact .val _
   ·intro a ha;simp only[jH,SL,SV,Xu]at ha;rcases ha with rfl|rfl|⟨_,rfl⟩|⟨_,rfl⟩<;>exact .val _
   ·intro a ha;simp at ha;subst ha;exact .val _
   ·trivial
  ·exact hM y h
end
def o6 (x:aj)(deep:Int)(i:Nat):List (List Spec):=(SZ i).map λk=>[qZ x deep k]
theorem NP(x:aj)(deep:Int)(i:Nat):(o6 x deep i).length=i:=by simp[o6]
theorem aqz(x:aj)(deep:Int)(i:Nat):o6 x deep (i+1)=o6 x deep i++[[qZ x deep i]]:=by simp[o6,Vk]
def xv (x:aj):Prop:=∀bh,bh<=3->∀h∈kZ x bh,mY h/\∀ns∈gD x h,∀a∈(iK x h ns).map (dH h ns),jK x a
noncomputable def jO (Hs:List aa)(Wg:Nat)(n:Int)(i:Nat):List (Nat×AV):=[(16,iv i),(15,iv n),(6,.val (pW Wg 0)),(5,.op (Hs.length+3) 0),(4,.op (Hs.length+2) 0),(3,.op (Hs.length+1) 0),(2,.op Hs.length 0)]
structure vK (x:aj)(deep:Int)(Hs:List aa)(E:Env)(c Wg:Nat)(rv dv fv:SQ)(i:Nat)(T:List (Nat×AV))(M:List aa)(E':Env)(V':View)(a':Act):Prop where
 ok:jJ x deep Hs E c Wg rv dv fv T M E' V' a'
 role:V'.role=.fork c Wg (o6 x deep i)
 Fi:E'.fr c=some s9
 Cb:E'.fr Wg=some (wgBlock SC ((i:Int)* 4294967296) 0)
section
variable {x:aj}{deep n:Int}{Hs:List aa}{E:Env}{c Wg i:Nat}{rv dv fv:SQ}{T T':List (Nat×AV)}{M M':List aa}{E1 E2:Env}{V1 V2:View}{a1 a2:Act}
theorem vK.step(h:vK x deep Hs E c Wg rv dv fv i T M E1 V1 a1)(hk:Kept E1 E2 V1 V2 a1 a2)(hc:jJ x deep Hs E c Wg rv dv fv T' M' E2 V2 a2):vK x deep Hs E c Wg rv dv fv i T' M' E2 V2 a2:=
 ⟨hc,hk.role.trans h.role,by rw[hk.le.fr];exact h.Fi,by rw[hk.le.fr];exact h.Cb⟩
theorem ame(hx:x.Ok)(hA:xv x)(zV:E.n<=Hs.length)(au:bM (Hs++(dC x deep c++[])))(h:vK x deep Hs E c Wg rv dv fv i (jO Hs Wg n i) [] E1 V1 a1)(hi:i<=3){cd:Ua}{Q:Ex->Act->View->Prop}(hcd:cd=cs (cs (ci (ci (cs (cf mN))))))
  (hQ:∀E2 V2 a2,vK x deep Hs E c Wg rv dv fv (i+1) (jO Hs Wg n (i+1)) [] E2 V2 a2->Q .normal a2 V2):WP true SC none cd Q a1 V1:=by
 subst hcd;refine wp_seq (wp_block (wp_seq ?_));refine h.ok.to ((7,.op (Hs.length+5) 0)::jO Hs Wg n i) [.cells [iv i] 3] ?_ λE2 V2 a2 cM cU=> ?_
 ·unfold jO dC;refine ak ?_;exact eE (by simp only[seval];simp[bw,Wk.refl]) rfl
 have h2:=h.step cM cU;obtain⟨V3,g3,o3,r3,d3,GH,IT,PH⟩:=cU.ah.bu.Hl (id:=Hs.length+5) (by rw[aW];rfl) 1 (by simp);rw[cY]at IT;have KY:Kept E2 {E2 with I:=V3.ab} V2 V3 a2 a2:=⟨GH,rfl,rfl,r3,d3⟩;have d_:=cU.step (T':=(7,.op (Hs.length+5) 0)::jO Hs Wg n i) (M':=[.part 1 [iv i] 3]) KY ⟨IT,cU.ah.tok.mono GH,cU.ah.size⟩;have h3:=h2.step KY d_;refine WP.ghost g3 ?_;generalize{E2 with I:=V3.ab}=E3 at GH IT PH KY d_ h3;have e6:a2.eval (.tmp 6)=pW Wg 0:=uA (d_.ah.tok 6 (.val (pW Wg 0)) rfl).2;obtain⟨w1,w2,w3⟩:=d_.ah.bu.fr Wg _ h3.Cb;have hrc:V3.role.chan≠some Wg:=by rw[h3.role];intro e;cases e;exact d_.ne rfl
 refine wp_seq (adQ rfl rfl (an0 rfl rfl (by kernel_rfl) ?_));have cS:(#[asI 6,at7 (.int .i64 1)]:Array Th).map a2.eval=#[pW Wg 0,.int .i64 1]:=by
  simp only[List.map_toArray,UV,List.map_nil,e6];rfl
 rw[cS];refine(aeW (n:=i) (sm:=N_ SC) (by omega) w1 w2 hrc d_.deaf).mono λo V4 hV=> ?_;obtain⟨rfl,rfl⟩:=hV;dsimp only;refine asm ?_;let xd:Obj:=wgBlock SC (((i+1:Nat):Int)* 4294967296) 0;show WP true SC none _ _ (a2.put (some 19) (.tuple #[])) (V3.upd Wg xd);have s_:=d_.ah.bu.aji h3.Cb xd;let f4:Nat->Option Obj:=λb'=>if b'=Wg then some xd else E3.fr b';have mD:jJ x deep Hs E c Wg rv dv fv ((7,.op (Hs.length+5) 0)::jO Hs Wg n i) [.part 1 [iv i] 3] (E3.frame f4) (V3.upd Wg xd) (a2.put (some 19) (.tuple #[])):=by
  refine⟨⟨s_,λt av e=> ?_,(ey a2 (some 19) _).trans d_.ah.size⟩,d_.lo.trans (Env.GK E3 f4),d_.main,(put_defers a2 _ _).trans d_.defers,d_.deaf,d_.er,d_.ed,d_.ef,d_.dr.frame f4,d_.dd.frame f4,d_.df.frame f4,λb y e=> ?_,d_.ne⟩
  ·have aG:t≠19:=by
    intro et;subst et;simp[jO,look]at e
   have:=((d_.ah.tok.frame f4).put (d:=19) (a:=.aM []) (v:=.tuple #[]) (by rw[d_.ah.size];omega) (.aM rfl (by simp))) t av (by simp only[look];rw[if_neg (Ne.symm aG)];exact e);exact this
  ·obtain⟨q1,q2,q3⟩:=d_.fr b y e;exact⟨by show (if b=Wg then _ else _)=_;rw[if_neg q3];exact q1,q2,q3⟩
 have PT:ap (E3.frame f4) (.rp [iv i]) (.pointer (some ⟨(E3.frame f4).blk (Hs.length+5),0,none⟩)):=by
  have hl:Hs.length+5<E2.n:=by rw[cU.ah.bu.n];simp[dC]
  have e:(E3.frame f4).blk (Hs.length+5)=E2.blk (Hs.length+5):=GH.blk _ hl;rw[e];exact PH.frame f4
 have Hq:(V3.upd Wg xd).role=.fork c Wg (o6 x deep i):=h3.role;have QL:(E3.frame f4).fr c=some s9:=by
  show (if c=Wg then _ else _)=_;rw[if_neg d_.ne];exact h3.Fi
 have QM:(E3.frame f4).fr Wg=some xd:=by
  show (if Wg=Wg then _ else _)=_;rw[if_pos rfl]
 generalize E3.frame f4=E4 at mD PT QL QM;generalize V3.upd Wg xd=V4 at mD Hq;generalize a2.put (some 19) (.tuple #[])=a4 at mD;clear s_;refine HS (K:=λs'=>look s'.T 20=some (.fn (.func 97) [] [.val (pW Wg 0),.op Hs.length 0,.op (Hs.length+5) 0,.op (Hs.length+1) 0,.op (Hs.length+3) 0])/\s'.Sub ⟨jO Hs Wg n i,Hs++(dC x deep c++[.part 1 [iv i] 3])⟩) 1 1 rfl (by kernel_rfl) mD.ah ?_ λE5 V5 a5 s5 gN kF hK=> ?_
 ·unfold jO dC;(try simp only[seval,T_,UC,Uj,TP]);exact eE (by simp only[seval];simp[bw,Wk.refl]) rfl
 obtain⟨l20,mc⟩:=hK;have FF:=kF.sub mc;have cF:=mD.step gN FF;have DN:V5.role=.fork c Wg (o6 x deep i):=gN.role.trans Hq;have v8:E5.fr c=some s9:=by rw[gN.le.fr];exact QL
 have Cc:E5.fr Wg=some xd:=by rw[gN.le.fr];exact QM
 have dk5:=PT.mono gN.le;have qF:Hs.length+5<E4.n:=by rw[mD.ah.bu.n];simp[dC]
 refine Og rfl rfl ?_;obtain⟨c1,c2,c3⟩:=cF.ah.bu.fr c _ v8;obtain⟨v1,v2,v3⟩:=cF.ah.bu.fr Wg _ Cc;have e20:a5.eval (.tmp 20)=.func (.func 97) #[] #[pW Wg 0,rv,.pointer (some ⟨E5.blk (Hs.length+5),0,none⟩),dv,fv]:=by
  obtain⟨fa,ca,q1,q2,q3⟩:=PL (kF.tok 20 _ l20).2;rw[EW q2]at q1;refine q1.trans ?_;have Lx:ca.size=5:=q3.1;have k0:=uA (q3.2 0 _ rfl);have k1:=B3 (q3.2 1 _ rfl);have k2:=B3 (q3.2 2 _ rfl);have k3:=B3 (q3.2 3 _ rfl);have k4:=B3 (q3.2 4 _ rfl);rw[<- cF.er]at k1;rw[<- cF.ed]at k3;rw[<- cF.ef]at k4;congr 1;refine Array.ext Lx λj h1 h2=> ?_;have hj:j=0\/j=1\/j=2\/j=3\/j=4:=by omega
  rw[SH,SK (by omega)]at k0 k1 k2 k3 k4;rcases hj with rfl|rfl|rfl|rfl|rfl
  ·exact k0
  ·exact k1
  ·exact k2
  ·exact k3
  ·exact k4
 refine⟨rfl,.tmp 20,97,#[],_,rfl,e20,cF.deaf,.inl ⟨c,Wg,o6 x deep i,qZ x deep i,[],DN,c1,?_,?_,v2,λJ0 C=> ?_,?_⟩⟩
 ·rw[v1,NP]
 ·rw[NP];omega
 ·have hb:E5.blk (Hs.length+5)=E4.blk (Hs.length+5):=gN.le.blk _ qF;rw[hb];have:=ash (J:=J0) (V:={ab:=V5.ab,own:=λ_=>none,deaf:=0,role:=.work c Wg [qZ x deep i]}) C hx hi (hA i hi) (agD cF.ah.bu.I rfl rfl) (cF.dr.bare (am6 x)) (dk5.bare (by simp[yJ,fe])) (cF.dd.bare (by simp[yJ,fe])) (cF.df.bare (by simp[yJ,fe])) rfl rfl;simpa using this
 let V6:View:={V5 with role:=.fork c Wg (o6 x deep i++[[qZ x deep i]])};have IU:Conc (E5.frame E5.fr) V6 (Hs++(dC x deep c++[.part 1 [iv i] 3])):=by
  refine cF.ah.bu.yR (V':=V6) _ rfl (λ_ _ _ _ _ _ h=>h) (λg hg=> ?_) (λg hg=> ?_) (λhm=>by rw[cF.main]at hm;cases hm) cF.ah.bu.fr
  ·cases hg;exact⟨by show V5.own Wg≠none;rw[v1];simp,v2,v3⟩
  ·cases hg;exact⟨by show V5.own c≠none;rw[c1];simp,c2,c3⟩
 have oO:jJ x deep Hs E c Wg rv dv fv (jO Hs Wg n i) [.part 1 [iv i] 3] E5 V6 (a5.put none undef):=⟨⟨IU,cF.ah.tok,cF.ah.size⟩,cF.lo,cF.main,cF.defers,cF.deaf,cF.er,cF.ed,cF.ef,cF.dr,cF.dd,cF.df,cF.fr,cF.ne⟩;show WP true SC none _ _ (a5.put none undef) V6;refine oO.to (jO Hs Wg n (i+1)) [.part 1 [iv i] 3] ?_ λE7 V7 a7 oS Cz=> ?_
 ·unfold jO dC;have hw:SE.wrap ((i:Int)+1)=(i:Int)+1:=bG _ (by omega);refine ai ?_;simp only[seval,hw];exact eE (by simp only[seval];simp[bw,Wk.refl]) rfl
 have fY:=jJ.cut (M:=[]) (T':=jO Hs Wg n (i+1)) Cz zV (by
  unfold jO;simp only[Xc,S0,false_imp_iff,implies_true,and_true,look,Zw,if_false,if_true,Tj,exists_eq_left',Wk.refl,true_and,fe,aa2,UR];omega) au
 refine hQ _ V7 a7 ⟨fY,?_,?_,?_⟩
 ·rw[oS.role,aqz]
 ·show E7.fr c=_;rw[oS.le.fr];exact v8
 ·show E7.fr Wg=_;rw[oS.le.fr];exact Cc
end
namespace Tk
theorem ab2{hs:List (List Int)}{h:List Int}(hn:hs.Nodup):(jW hs h).Nodup:=by
 unfold jW;split
 ·exact hn
 ·rename_i hm;rw[U4];exact⟨hn,by simp,λa ha b hb=>by rw[S9.1 hb];exactλe=>hm (e▸ha)⟩
theorem arp{x:aj}{deep:Int}{Q:Kn}{t:List Int}(hn:Q.aK.Nodup):(eS x deep Q t).aK.Nodup:=by
 have hB:(j7 Q t).aK.Nodup:=by unfold j7;split<;>exact hn
 unfold eS;dsimp only;generalize j7 Q t=R at hB;split
 ·exact hB
 ·split
  ·exact ab2 hB
  ·exact hB
theorem ase{x:aj}{deep:Int}{bh:Nat}:(h_ x deep bh).aK.Nodup:=by
 unfold h_;have key:∀(ts:List (List Int))(Q:Kn),Q.aK.Nodup->(ts.foldl (eS x deep) Q).aK.Nodup:=by
  intro ts;induction ts with
  |nil=>exactλQ h=>h
  |cons t ts ih=>exactλQ h=>ih _ (arp h)
 exact key _ _ WK
theorem Qz:∀{l hs:List (List Int)},(∀y∈hs,y.length=4)->(∀y∈l,y.length=4)->∀y∈l.foldl jW hs,y.length=4
 |[],hs,h1,_=>h1
 |a::l,hs,h1,h2=>by rw[UX];exact Qz (ab0 h1 (h2 a (by simp))) (λy hy=>h2 y (by simp[hy]))
theorem G6{l m:List Nat}(h:l.length=m.length):(mj l m).length=l.length:=by simp[mj,h]
theorem G7{l m:List Nat}(h1:∀n∈l,n<65536)(h2:∀n∈m,n<65536):∀n∈mj l m,n<65536:=λn hn=>by
 unfold mj at hn;rw[UQ]at hn;obtain⟨i,hi⟩:=hn;rw[List.getElem?_zipWith]at hi;cases ha:l[i]?with
 |none=>rw[ha]at hi;cases hi
 |some a=>
  cases hb:m[i]?with
  |none=>rw[ha,hb]at hi;cases hi
  |some b=>
   rw[ha,hb]at hi;cases hi;exact p_ (h1 _ (Td ha)) (h2 _ (Td hb))
theorem aaD{F G:Kn}{hs:List (List Int)}(hF:bS F)(hG:bS G)(hp:hs.Perm G.aK):bS (io F hs G):=by
 unfold io;split
 ·refine⟨(G6 (by rw[hF.aA,hG.aA])).trans hF.aA,(G6 (by rw[hF.hours,hG.hours])).trans hF.hours,(G6 (by rw[hF.less,hG.less])).trans hF.less,(G6 (by rw[hF.aX,hG.aX])).trans hF.aX,?_,G7 hF.mQ hG.mQ,G7 hF.nc hG.nc,G7 hF.nm hG.nm,G7 hF.ml hG.ml,Qz hF.h4 λy hy=>hG.h4 y (hp.mem_iff.1 hy)⟩;split
  ·exact hG.first
  ·exact hF.first
 ·exact hF
inductive oz (x:aj)(deep:Int):List Nat->Kn->Prop where
 |nil:oz x deep [] Kn.zero
 |snoc {js:List Nat} {F:Kn} {j:Nat} {hs:List (List Int)} (h:oz x deep js F) (hp:hs.Perm (h_ x deep j).aK):oz x deep (js++[j]) (io F hs (h_ x deep j))
end Tk
theorem xv.work{x:aj}{deep:Int}{j:Nat}(hA:xv x)(hx:x.Ok)(hj:j<=3):bS (h_ x deep j):=Oc hx (hA j hj)
def nv (x:aj)(deep:Int)(n:Nat)(js:List Nat):List (List Spec):=(SZ n).map λk=>if k∈js then[]else[qZ x deep k]
theorem aqC(x:aj)(deep:Int)(n:Nat):nv x deep n []=o6 x deep n:=by simp[nv,o6]
theorem aqB{x:aj}{deep:Int}{n j:Nat}{js:List Nat}{sp:Spec}{S:List Spec}(h:(nv x deep n js)[j]?=some (sp::S)):j<n/\j∉js/\sp=qZ x deep j/\S=[]:=by
 unfold nv at h;rw[Tn]at h;obtain⟨k,h1,h2⟩:=Tp.1 h;have hk:j<n/\k=j:=by
  have:=SM.1 h1;obtain⟨h3,h4⟩:=this;simp at h3 h4;exact⟨h3,h4.symm⟩
 obtain⟨h3,rfl⟩:=hk;split at h2
 ·cases h2
 ·rename_i hm;cases h2;exact⟨h3,hm,rfl,rfl⟩
theorem aqD{x:aj}{deep:Int}{n j:Nat}{js:List Nat}:(nv x deep n js).set j []=nv x deep n (js++[j]):=by
 apply Yj;intro k;unfold nv;rw[UP,Tn,Tn,Tm,ZL];by_cases hk:k<n
 ·rw[XI hk];by_cases hj:j=k
  ·subst hj;rw[if_pos rfl,if_pos hk];simp
  ·rw[if_neg hj];have e:(k∈js++[j])<->k∈js:=by
    rw[SV,S9];exact⟨λh=>h.elim id λe=>absurd e.symm hj,.inl⟩
   simp only[UO,e]
 ·have e:(SZ n)[k]?=none:=Uu (by simp;omega);rw[e];by_cases hj:j=k
  ·subst hj;rw[if_pos rfl,if_neg hk];rfl
  ·rw[if_neg hj];rfl
theorem aqA{x:aj}{deep:Int}{n:Nat}{js:List Nat}(h:∀S∈nv x deep n js,S=[]):∀k,k<n->k∈js:=λk hk=>by
 apply Ts;intro hn;have:=h [qZ x deep k] (Tl.2 ⟨k,by simpa using hk,by rw[if_neg hn]⟩);cases this
theorem amc{E:Env}{K:Kn}{mp b:Nat}(hb:E.blk mp=b)(hm:mp<E.n):ap E (.agg (K.l mp)) (.agg (sj K b).toArray):=by
 subst hb;refine .agg (by simp[Kn.l,sj]) λi a e=> ?_
 match i with
 |0=>cases e;exact .val _
 |1=>cases e;exact .mp hm
 |i+2=>
  have e':(K.l mp)[i+2]?=((K.aA.map (λn:Nat=>SF .u16 n)++(K.hours.map (λn:Nat=>SF .u16 n)++(K.less.map (λn:Nat=>SF .u16 n)++(K.aX.map (λn:Nat=>SF .u16 n)++K.first.map (SF .i64))))).map AV.val)[i]?:=by
   simp[Kn.l,wv,iv,Yu]
  rw[e',Tn]at e;obtain⟨z,h1,rfl⟩:=Tp.1 e;have h2:(sj K (E.blk mp))[i+2]?=some z:=h1;rw[SH,Vb,h2];exact .val _
theorem lg(K:Kn)(mp:Nat):∀a∈K.l mp,a.leaf=true:=λa ha=>by
 simp only[Kn.l,SL,SV,Tl]at ha;rcases ha with rfl|rfl|⟨_,_,rfl⟩|⟨_,_,rfl⟩|⟨_,_,rfl⟩|⟨_,_,rfl⟩|⟨_,_,rfl⟩<;>rfl
theorem afJ{lv:Bool}{P:SJ}{r:Option Nat}{nt:Nat}{E:Env}{V:View}{a:Act}{s:AS}{c:Ua}{Q:Ex->Act->View->Prop}{α:Type}(p:α->Prop)(S3:α->AS)(ah:At E V s a nt)(h:aQ lv P r nt c s (λe s'=>match e with|.normal=>∃q,p q/\s'.Sub (S3 q)|_=>False))(hQ:∀q E' V' a',p q->Kept E E' V V' a a'->At E' V' (S3 q) a' nt->Q .normal a' V'):WP lv P r c Q a V:=
 h E V a Q ah λae e E' V' a' s' hk aV he hΦ=>by
  cases ae<;>cases e<;>first
   |exact he.elim
   |exact hΦ.elim
   |(obtain⟨q,h1,h2⟩:=hΦ
     exact hQ q E' V' a' h1 hk (aV.sub h2))
theorem agR{E:Env}(l:List SQ):ap E (.agg (l.map .val)) (.agg l.toArray):=by
 refine .agg (by simp) λi a e=> ?_;rw[Tn]at e;obtain⟨z,h1,rfl⟩:=Tp.1 e;rw[SH,Vb,h1];exact .val _
def Ot:List SQ:=.bool false:: .map none::(TG 15 (.int .u16 0)++TG 11 (.int .i64 0))
def iJ (Hs:List aa)(F:Kn):List aa:=[setH F.aK,.cells (F.l (Hs.length+5)) 88]
noncomputable def jE (Hs:List aa):List (Nat×AV):=[(8,.op (Hs.length+6) 0),(5,.op (Hs.length+3) 0),(4,.op (Hs.length+2) 0)]
structure Ey (x:aj)(deep:Int)(n:Nat)(Hs:List aa)(E:Env)(c Wg:Nat)(rv dv fv:SQ)(js:List Nat)(F:Kn)(T:List (Nat×AV))(G:List aa)(E':Env)(V':View)(a':Act):Prop where
 ok:jJ x deep Hs E c Wg rv dv fv T (iJ Hs F++G) E' V' a'
 role:V'.role=.recv c Wg (nv x deep n js)
 aaE:oz x deep js F
 kn:bS F
 nodup:js.Nodup
 lt:∀j∈js,j<n
noncomputable def aaL:Ua:=ci (ci (cs (cs (cs mN))))
theorem amd{x:aj}{deep:Int}{Hs:List aa}{c:Nat}{F:Kn}(hH:bM Hs):bM (Hs++(dC x deep c++iJ Hs F)):=by
 refine aaM hH λz hz=> ?_;simp only[iJ,SL,S0,or_false]at hz;rcases hz with rfl|rfl
 ·trivial
 ·exact yD (by simp[iJ])
theorem ane{V:View}{Im:cE}{b:Nat}{K:Kn}{w:To}(hS:Sat V w)(hI:∀b o x,Im b o=some x->w.cell? ⟨b,o,none⟩=some x)(hb:w.heap[b]?=some (si K)):∀o,V.ab b o=none/\Im b o=none:=λo=>by
 have hc:w.cell? ⟨b,o,none⟩=none:=by simp[Uy,hb,si]
 constructor
 ·cases h:V.ab b o with
  |none=>rfl
  |some v=>have:=hS.ab b o v h;rw[hc]at this;cases this
 ·cases h:Im b o with
  |none=>rfl
  |some v=>have:=hI b o v h;rw[hc]at this;cases this
section
variable {x:aj}{deep:Int}{n:Nat}{Hs:List aa}{E:Env}{c Wg:Nat}{js:List Nat}{D:Kn}{rv dv fv:SQ}{T T':List (Nat×AV)}{G G':List aa}{E1 E2:Env}{V1 V2:View}{a1 a2:Act}
theorem amf(hx:x.Ok)(hA:xv x)(Sr:n<=4)(zV:E.n<=Hs.length)(b_:bM Hs)(h:Ey x deep n Hs E c Wg rv dv fv js D (jE Hs) [] E1 V1 a1){Q:Ex->Act->View->Prop}
  (hQ:∀j D' E2 V2 a2,j∉js->Ey x deep n Hs E c Wg rv dv fv (js++[j]) D' (jE Hs) [] E2 V2 a2->Q .normal a2 V2)
  (FA:∀E2 V2 a2 G,At E2 V2 ⟨[(4,.op (Hs.length+2) 0)],Hs++([.part 6 x.l 76,.part 1 [iv deep] 3,.cells (D.l (Hs.length+5)) 88,.part 1 [.val (.chan (some c))] 139,.gone,setH D.aK]++G)⟩ a2 35->E.Lo E2->a2.defers=[]->V2.deaf=0->V2.role=.plain->(∀b y,E.fr b=some y->E2.fr b=some y)->(∀k,k<n->k∈js)->Q .ret a2 V2):WP true SC none aaL Q a1 V1:=by
 refine wp_block (id:=3) (wp_seq ?_);refine HS (K:=λs'=>look s'.T 26=some (.val (.chan (some c)))/\s'.Sub ⟨jE Hs,Hs++(dC x deep c++(iJ Hs D++[]))⟩) 1 7 rfl (by kernel_rfl) h.ok.ah ?_ λE3 V3 a3 s3 wz qA hK=> ?_
 ·unfold jE dC iJ;(try simp only[seval]);exact eE (by simp only[seval];simp[bw,Wk.refl]) rfl
 obtain⟨l26,mc⟩:=hK;have d_:=h.ok.step wz (qA.sub mc);have ro3:V3.role=.recv c Wg (nv x deep n js):=wz.role.trans h.role;have e26:a3.eval (.tmp 26)=.chan (some c):=uA (qA.tok 26 _ l26).2;obtain⟨ti,wH,hzi⟩:=Te.1 F.OH;refine asl rfl rfl (.inr ?_);refine⟨rfl,c,Wg,nv x deep n js,.both,88,ti,_,e26,by kernel_rfl,wH,hzi,ro3,d_.deaf,λj sp S v Im Ow r1 r2 r3 r4 r5=> ?_,λhS=> ?_⟩
 ·
  obtain⟨pJ,dM,rfl,rfl⟩:=aqB r1;obtain⟨b,hv,J8⟩:=r2;have xX:bS (h_ x deep j):=hA.work hx (by omega);have Rg:(h_ x deep j).aK.Nodup:=ase;obtain⟨W,hW⟩:∃W,W=h_ x deep j:=⟨_,rfl⟩;rw[<- hW]at hv J8 xX Rg;let qk:View:={V3 with ab:=λb o=>match V3.ab b o with|some x=>some x|none=>Im b o,role:=.recv c Wg ((nv x deep n js).set j [])};obtain⟨aaP,Pz⟩:=d_.ah.bu.amE (V':=qk) rfl (λb o v e=>by show (match V3.ab b o with|some x=>some x|none=>Im b o)=some v;rw[e]) (λb o hb e=>by
   show (match V3.ab b o with|some x=>some x|none=>Im b o)=none;rw[e];apply Ts;intro aG;exact absurd e (r4 b o hb aG)) rfl rfl (λhm=>by rw[d_.main]at hm;cases hm)
  have J7:Ow b=some (si W):=by rw[J8];simp
  obtain⟨w,hSw,hIw,hww⟩:=r5;have jR:=ane hSw hIw (hww b _ J7);have eM:V3.own b=none:=by
   apply Ts;intro aG;have:=r3 b aG;rw[J7]at this;cases this
  have KD:qk.fresh b:=⟨eM,λo=>by
   show (match V3.ab b o with|some x=>some x|none=>Im b o)=none;rw[(jR o).1];exact(jR o).2⟩
  have akD:E3.n=Hs.length+7:=by rw[d_.ah.bu.n];simp[dC,iJ]
  have s_:=Pz.add KD (si W) (x:=.obj (si W)) ⟨by rw[Env.dU];simp[View.upd],rfl,rfl,λo=>by rw[Env.dU];exact KD.2 o⟩ (λb' e=>by
   simp only[bQ,Env.dU,Tj]at e;exact e.symm)
  have Rd:qk.upd b (si W)={V3 with ab:=λb o=>match V3.ab b o with|some x=>some x|none=>Im b o,own:=λb=>match V3.own b with|some x=>some x|none=>Ow b,role:=.recv c Wg ((nv x deep n js).set j [])}:=by
   have:(λb'=>if b'=b then some (si W)else V3.own b')=λb=>match V3.own b with|some x=>some x|none=>Ow b:=by
    funext b';by_cases hb:b'=b
    ·subst hb;rw[if_pos rfl,eM,J7]
    ·rw[if_neg hb];cases dL:V3.own b' with
     |some y=>rfl
     |none=>simp[J8,hb]
   show View.mk _ _ _ _=View.mk _ _ _ _;congr 1
  have Q2:(({E3 with I:=qk.ab}:Env).add b qk.ab).blk (Hs.length+7)=b:=by rw[<- akD];exact Env.dU ({E3 with I:=qk.ab}:Env) b _
  have Mv:E3.Le (({E3 with I:=qk.ab}:Env).add b qk.ab):=aaP.trans (Env.qT _ b λ_ _ _ e=>e);have akJ:(({E3 with I:=qk.ab}:Env).add b qk.ab).n=Hs.length+8:=by show E3.n+1=_;omega
  rw[Rd]at s_;generalize hE4:(({E3 with I:=qk.ab}:Env).add b qk.ab)=E4 at s_ Q2 Mv akJ;have bm:ap E4 (.aM [.agg (W.l (Hs.length+7)),bv true]) (.tuple #[v,.bool true]):=by
   subst hv;refine .aM rfl λq a e=> ?_
   match q,e with
   |0,e=>cases e;exact amc Q2 (by omega)
   |1,e=>cases e;exact .val _
  have ajK:Hs++(dC x deep c++(iJ Hs D++[]))++[aa.obj (si W)]=Hs++(dC x deep c++(iJ Hs D++[setH W.aK])):=by simp[setH,si]
  rw[ajK]at s_;clear Rd hE4 Pz aaP KD;generalize Re:({V3 with ab:=λb o=>match V3.ab b o with|some x=>some x|none=>Im b o,own:=λb=>match V3.own b with|some x=>some x|none=>Ow b,role:=.recv c Wg ((nv x deep n js).set j [])}:View)=V4 at s_;have Hq:V4.role=.recv c Wg (nv x deep n (js++[j])):=by rw[<- Re];show nA.recv c Wg _=_;rw[aqD]
  have de4:V4.deaf=V3.deaf:=by rw[<- Re]
  have rN:At E4 V4 ⟨(27,.aM [.agg (W.l (Hs.length+7)),bv true])::jE Hs,Hs++(dC x deep c++(iJ Hs D++[setH W.aK]))⟩ (a3.put (some 27) (.tuple #[v,.bool true])) 35:=⟨s_,(d_.ah.tok.mono Mv).put (by rw[d_.ah.size];omega) bm,(ey a3 (some 27) _).trans d_.ah.size⟩;have mD:jJ x deep Hs E c Wg rv dv fv ((27,.aM [.agg (W.l (Hs.length+7)),bv true])::jE Hs) (iJ Hs D++[setH W.aK]) E4 V4 (a3.put (some 27) (.tuple #[v,.bool true])):=
   d_.HD Mv (put_defers a3 _ _) de4 rN
  have FB:=Kn.len xX (Hs.length+7);refine Oh ⟨(10,bv true)::(9,.op (Hs.length+8) 0)::jE Hs,Hs++(dC x deep c++(iJ Hs D++[setH W.aK,.cells (W.l (Hs.length+7)) 88]))⟩ rfl (by kernel_rfl) rN ?_ λE5 V5 a5 gN kF=> ?_
  ·unfold jE dC iJ;(try simp only[seval,FB]);exact⟨lg _ _,eE (by simp only[seval];simp[bw,Wk.refl]) rfl⟩
  have cF:=mD.step gN kF;have DN:V5.role=.recv c Wg (nv x deep n (js++[j])):=gN.role.trans Hq;refine wp_seq (wp_seq ?_);refine cF.to ((31,bv false)::(9,.op (Hs.length+8) 0)::jE Hs) (iJ Hs D++[setH W.aK,.cells (W.l (Hs.length+7)) 88]) ?_ λE6 V6 a6 Al oO=> ?_
  ·unfold jE dC iJ;refine ak ?_;exact eE (by simp only[seval];simp[bw,Wk.refl]) rfl
  refine Od oO.ah rfl ?_;refine wp_skip ?_;refine afJ (λhs:List (List Int)=>hs.Perm W.aK) (λhs=>⟨jE Hs,Hs++(dC x deep c++(iJ Hs (io D hs W)++[setH W.aK,.cells (W.l (Hs.length+7)) 88]))⟩) oO.ah ?_ λhs E7 V7 a7 Li oS Ki=> ?_
  ·unfold jE dC iJ;refine ai ?_;simp only[seval,FB];rw[SS (i:=28) (by omega)];refine aI ((ahL (fp:=Hs.length+6) (mp:=Hs.length+5) (mg:=Hs.length+7) h.kn xX (by omega) (by omega) (by rw[aW];rfl) (by rw[aW];rfl) (by rw[aW];rfl) Rg ?_));intro hs hp;rw[cY,cY];(try simp only[seval]);exact⟨hs,hp,eE (by simp only[seval];simp[bw,Wk.refl]) rfl⟩
  have Cz:=oO.step oS Ki;have fY:=jJ.cut (T':=jE Hs) Cz zV (by
   unfold jE iJ;simp only[Xc,S0,false_imp_iff,implies_true,and_true,look,Zw,if_false,if_true,Tj,exists_eq_left',Wk.refl,true_and,aa2,Uk,UR];omega) (amd b_)
  have dW:oz x deep (js++[j]) (io D hs W):=by
   rw[hW]at Li⊢;exact h.aaE.snoc Li
  refine hQ j (io D hs W) _ V7 a7 dM ⟨by rw[SI];exact fY,?_,dW,aaD h.kn xX Li,?_,?_⟩
  ·rw[oS.role,Al.role];exact DN
  ·rw[U4];exact⟨h.nodup,by simp,λa ha b hb=>by rw[S9.1 hb];exactλe=>dM (e▸ha)⟩
  ·intro k hk;rcases SV.1 hk with h'|h'
   ·exact h.lt k h'
   ·rw[S9.1 h'];exact pJ
 ·
  have fW:=aqA hS;let V4:View:={V3 with role:=.plain};have s_:Conc (E3.frame E3.fr) V4 (Hs++(dC x deep c++(iJ Hs D++[]))):=
   d_.ah.bu.yR (V':=V4) _ rfl (λ_ _ _ _ _ _ h=>h) (λg hg=>by cases hg) (λg hg=>by cases hg) (λhm=>by rw[d_.main]at hm;cases hm) d_.ah.bu.fr
  have bm:ap E3 (.aM [.agg jH,bv false]) (.tuple #[.agg Ot.toArray,.bool false]):=by
   refine .aM rfl λq a e=> ?_
   match q,e with
   |0,e=>cases e;exact agR Ot
   |1,e=>cases e;exact .val _
  have rN:At E3 V4 ⟨(27,.aM [.agg jH,bv false])::jE Hs,Hs++(dC x deep c++(iJ Hs D++[]))⟩ (a3.put (some 27) (.tuple #[.agg Ot.toArray,.bool false])) 35:=⟨s_,d_.ah.tok.put (by rw[d_.ah.size];omega) bm,(ey a3 (some 27) _).trans d_.ah.size⟩;have mD:=d_.HD (V2:=V4) (Env.Le.refl E3) (put_defers a3 (some 27) _) rfl rN;have mh:jH.length=28:=rfl;have cg:=Kn.len h.kn (Hs.length+5);refine Oh ⟨(10,bv false)::jE Hs,Hs++(dC x deep c++(iJ Hs D++[.cells jH 88]))⟩ rfl (by kernel_rfl) rN ?_ λE5 V5 a5 gN kF=> ?_
  ·unfold jE dC iJ;(try simp only[seval,mh]);exact⟨λa ha=>by simp only[jH,SL,SV,Xu]at ha;rcases ha with rfl|rfl|⟨_,rfl⟩|⟨_,rfl⟩<;>rfl,eE (by simp only[seval];simp[bw,Wk.refl]) rfl⟩
  have cF:=mD.step gN kF;refine wp_seq (wp_seq ?_);refine cF.to ((31,bv true)::jE Hs) (iJ Hs D++[.cells jH 88]) ?_ λE6 V6 a6 Al oO=> ?_
  ·unfold jE dC iJ;refine ak ?_;exact eE (by simp only[seval];simp[bw,Wk.refl]) rfl
  refine Od oO.ah rfl ?_;refine wp_seq ?_;refine zy ⟨[(4,.op (Hs.length+2) 0)],Hs++([.part 6 x.l 76,.part 1 [iv deep] 3,.cells (D.l (Hs.length+5)) 88,.part 1 [.val (.chan (some c))] 139,.gone,setH D.aK]++[.cells (D.l (Hs.length+5)) 88,.cells jH 88])⟩ oO.ah ?_ λE7 V7 a7 oS Ki=> ?_
  ·unfold jE dC iJ;refine ai ?_;simp only[seval,cg,mh];rw[SS (i:=28) (l:=D.l (Hs.length+5)) (by omega)];exact⟨cg,by omega,lg _ _,eE (by simp only[seval];simp[bw,Wk.refl]) (by rw[cg,TW (by rw[mh];exact SR _),SI])⟩
  refine wp_ret ?_;exact FA E7 V7 a7 _ Ki (oO.lo.trans oS.le.lo) (oS.defers.trans oO.defers) (oS.deaf.trans oO.deaf) (oS.role.trans (Al.role.trans gN.role)) (λb y e=>by rw[oS.le.fr];exact(oO.fr b y e).1) fW
end
open Go.Conc Go.Proofs Go.Gg.Tk
theorem apC{P:SJ}{rs:List UN}{fn:Yz}{nt:Nat}{k kp:AV->List aa->Prop}{E E':Env}{V V':View}{H L G:List aa}{T:List (Nat×AV)}{a':Act}{av:AV}(hr:fn.results=rs.toArray)(ah:At E' V' ⟨T,H.map strip++(L++G)⟩ a' nt)(pL:E.Lo E')(hc:Conc E V H)(cp:V'.role=V.role)(fy:V'.deaf=V.deaf)(hf:∀b y,E.fr b=some y->E'.fr b=some y)
  (gQ:iw P ⟨T,H.map strip++(L++G)⟩ rs=some [av]) (hL:L.map strip=L) (au:bM (H.map strip++L)) (hlt:Lt (H.length+L.length) av) (hk:k av (H++L)):∃v,aO P V' (results fn a'.tmps) (λx aT=>x=v/\aT=V') (λ_ _=>False)/\ii E V k kp (.ret v) V':=by
 obtain⟨vs,hl,mf,yl⟩:=Hp ah rs [av] gQ;obtain⟨v,rfl⟩:∃v,vs=[v]:=List.length_eq_one_iff.1 hl;have bm:ap E' av v:=mf 0 av rfl;have qM:aO P V' (results fn a'.tmps) (λx aT=>x=v/\aT=V') (λ_ _=>False):=by
  unfold results;rw[hr,XX];refine az ?_;refine az (yl ?_);refine aq (aq ⟨?_,rfl⟩);simp
 have Kr:=ah.bu;dsimp only at Kr;rw[<- SA]at Kr;have fY:=Kr.trim (H:=H.map strip++L) (G:=G) au;have hlen:(H.map strip++L).length=H.length+L.length:=by simp
 rw[hlen]at fY;have uY:(H++L).map strip=H.map strip++L:=by rw[TN,hL]
 rw[<- uY]at fY;refine⟨v,qM,av,((({E' with n:=H.length+L.length}:Env).fH E.main).frame E.fr),H++L,?_,cp,fy,?_,fY.apt E.main E.fr (λk e=> ?_) (λe=>by rw[cp,fy];exact hc.top e) hf,hk⟩
 ·refine Env.Lo.le (E':={E' with n:=H.length+L.length}) ⟨pL.I,?_,pL.blk,pL.fQ,pL.room⟩;show E.n<=H.length+L.length;rw[hc.n];omega
 ·exact((bm.trim hlt).fH E.main).frame E.fr
 ·by_cases CN:k<H.length
  ·rw[SY CN]at e;exact hc.obj k _ e
  ·rw[S8 (by omega)]at e;have h2:(L.map strip)[k-H.length]?=some .gone:=(by rw[Tn,e];rfl);rw[hL,e]at h2;cases h2
section
variable {x:aj}{deep:Int}{Hs:List aa}{E:Env}{c Wg p:Nat}{rv dv fv:SQ}{T:List (Nat×AV)}{E1:Env}{V1:View}{a1:Act}
theorem amg(hx:x.Ok)(hA:xv x)(hp:x.am=p)(zV:E.n<=Hs.length)(b_:bM Hs)(h:vK x deep Hs E c Wg rv dv fv 0 [(6,.val (pW Wg 0)),(5,.op (Hs.length+3) 0),(4,.op (Hs.length+2) 0),(3,.op (Hs.length+1) 0),(2,.op Hs.length 0)] [] E1 V1 a1){Q:Ex->Act->View->Prop}
  (hQ:∀js D E2 V2 a2 G,js.Perm (SZ (p+1))->oz x deep js D->bS D->At E2 V2 ⟨[(4,.op (Hs.length+2) 0)],Hs++([.part 6 x.l 76,.part 1 [iv deep] 3,.cells (D.l (Hs.length+5)) 88,.part 1 [.val (.chan (some c))] 139,.gone,setH D.aK]++G)⟩ a2 35->E.Lo E2->a2.defers=[]->V2.deaf=0->V2.role=.plain->(∀b y,E.fr b=some y->E2.fr b=some y)->Q .ret a2 V2):WP true SC none mN Q a1 V1:=by
 have hp3:p<=3:=by have:=hx.am;omega
 have akV:bM (Hs++(dC x deep c++[])):=aaM b_ (by simp);refine wp_seq (x:=cf mN) (wp_seq (x:=cf (cf mN)) ?_);refine h.ok.to (jO Hs Wg ((p+1:Nat):Int) 0) [] ?_ λE2 V2 a2 cM cU=> ?_
 ·show aQ true SC none 35 (cf (cf mN)) _ _;unfold jO dC;have bT:x.l=[iv x.first,iv x.hours,iv x.am,dP x.seen,aS x.pieces,aS x.aB]:=rfl;have hw:SE.wrap (x.am+1)=((p+1:Nat):Int):=by rw[hp,bG _ (by omega)];rfl
  refine ai ?_;simp only[seval,bT,hw];exact eE (by simp only[seval];simp[bw,Wk.refl]) rfl
 have h2:vK x deep Hs E c Wg rv dv fv 0 (jO Hs Wg ((p+1:Nat):Int) 0) [] E2 V2 a2:=h.step cM cU;refine wp_block (id:=0) (c:=.loop (ci (ci (cs (cf mN))))) ?_;refine wp_loop (λm a' V'=>∃E' i,m=p+1-i/\i<=p+1/\vK x deep Hs E c Wg rv dv fv i (jO Hs Wg ((p+1:Nat):Int) i) [] E' V' a') (p+1) ⟨E2,0,rfl,by omega,h2⟩ λm a3 V3 hI=> ?_;obtain⟨E3,i,rfl,hi,h3⟩:=hI;refine wp_seq (x:=cf (ci (ci (cs (cf mN))))) (y:=cs (ci (ci (cs (cf mN))))) ?_;refine h3.ok.to ((17,bv (decide ((i:Int)<((p+1:Nat):Int))))::jO Hs Wg ((p+1:Nat):Int) i) [] ?_ λE4 V4 a4 pK mD=> ?_
 ·show aQ true SC none 35 (cf (ci (ci (cs (cf mN))))) _ _;unfold jO dC;refine ak ?_;exact eE (by simp only[seval];simp[bw,Wk.refl]) rfl
 have rI:=h3.step pK mD;refine wp_seq (x:=.cond (.tmp 17) .skip (.exit 0)) (y:=cs (cs (ci (ci (cs (cf mN)))))) (Od mD.ah rfl ?_);by_cases RU:i<p+1
 ·rw[show decide ((i:Int)<((p+1:Nat):Int))=true from decide_eq_true (by omega)];refine wp_skip ?_;have ajU:jJ x deep Hs E c Wg rv dv fv (jO Hs Wg ((p+1:Nat):Int) i) [] E4 V4 a4:=mD.HD (Env.Le.refl E4) rfl rfl (mD.ah.sub (eE (by unfold jO dC;simp only[seval];simp[bw,Wk.refl]) rfl));exact ame hx hA zV akV ⟨ajU,rI.role,rI.Fi,rI.Cb⟩ (by omega) rfl λE5 V5 a5 h5=>⟨p+1-(i+1),by omega,E5,i+1,rfl,by omega,h5⟩
 have dF:i=p+1:=by omega
 subst dF;rw[show decide ((((p+1:Nat):Int))<((p+1:Nat):Int))=false by simp];refine wp_exit ?_;refine wp_seq (x:=cf (cs mN)) (y:=cs (cs mN)) ?_;refine HS (K:=λs'=>look s'.T 22=some (.fn (.func 100) [] [.val (pW Wg 0),.op (Hs.length+3) 0])/\s'.Sub ⟨[(5,.op (Hs.length+3) 0),(4,.op (Hs.length+2) 0)],Hs++(dC x deep c++[])⟩) 1 1 rfl (by kernel_rfl) mD.ah ?_ λE5 V5 a5 s5 gN kF hK=> ?_
 ·unfold jO dC;(try simp only[seval,T_,UC,Uj,TP]);exact eE (by simp only[seval];simp[bw,Wk.refl]) rfl
 obtain⟨Mq,mc⟩:=hK;have cF:=mD.step gN (kF.sub mc);have DN:V5.role=.fork c Wg (o6 x deep (p+1)):=gN.role.trans rI.role;have v8:E5.fr c=some s9:=by rw[gN.le.fr];exact rI.Fi
 have Cc:E5.fr Wg=some (wgBlock SC (((p+1:Nat):Int)* 4294967296) 0):=by rw[gN.le.fr];exact rI.Cb
 obtain⟨c1,c2,c3⟩:=cF.ah.bu.fr c _ v8;obtain⟨v1,v2,v3⟩:=cF.ah.bu.fr Wg _ Cc;have e22:a5.eval (.tmp 22)=.func (.func 100) #[] #[pW Wg 0,fv]:=by
  obtain⟨fa,ca,q1,q2,q3⟩:=PL (kF.tok 22 _ Mq).2;rw[EW q2]at q1;refine q1.trans ?_;have gB:ca.size=2:=q3.1;have k0:=uA (q3.2 0 _ rfl);have k1:=B3 (q3.2 1 _ rfl);rw[<- cF.ef]at k1;congr 1;refine Array.ext gB λj h1 h2=> ?_;have hj:j=0\/j=1:=by omega
  rw[SH,SK (by omega)]at k0 k1;rcases hj with rfl|rfl
  ·exact k0
  ·exact k1
 have hfc:V5.ab (E5.blk (Hs.length+3)) 0=some (.chan (some c)):=by
  have bC:=cF.df;rw[cF.ef]at bC;generalize hp:(Value.pointer (some ⟨E5.blk (Hs.length+3),0,none⟩))=pv at bC;cases bC with
  |rp b o f h1 h2=>
   cases hp;have:=h1 0 (by simp);rw[cF.ah.bu.I]at this;rw[UD]at this;rw[this,uA (h2 0 _ rfl)]
 refine Og rfl rfl ?_;refine⟨rfl,.tmp 22,100,#[],_,rfl,e22,cF.deaf,.inr ⟨c,Wg,_,DN,cF.ne,c1,?_,c2,v2,?_,?_⟩⟩
 ·rw[v1,NP]
 ·have:=agA Wg (E5.blk (Hs.length+3)) c (Im:=V5.ab) hfc;rw[cF.ef];simpa[pW]using this
 let V6:View:={V5 with own:=λb=>if b=c\/b=Wg then none else V5.own b,role:=.recv c Wg (o6 x deep (p+1))};let f6:Nat->Option Obj:=λb=>if b=c\/b=Wg then none else E5.fr b;have IU:Conc (E5.frame f6) V6 (Hs++(dC x deep c++[])):=by
  refine cF.ah.bu.yR (V':=V6) _ rfl (λb z k w hk kU hz=> ?_) (λg hg=>by cases hg) (λg hg=>by cases hg) (λhm=>by rw[cF.main]at hm;cases hm) (λb y hb=> ?_)
  ·have n1:b≠c:=cF.ah.bu.Dz v8 hk kU;have n2:b≠Wg:=cF.ah.bu.Dz Cc hk kU;show (if b=c\/b=Wg then none else V5.own b)=some z;rw[if_neg (λe=>e.elim n1 n2)];exact hz
  ·by_cases z_:b=c\/b=Wg
   ·simp only[f6,if_pos z_]at hb;cases hb
   ·simp only[f6,if_neg z_]at hb;obtain⟨q1,q2,q3⟩:=cF.ah.bu.fr b y hb;refine⟨?_,q2,q3⟩;show (if b=c\/b=Wg then none else V5.own b)=some y;rw[if_neg z_];exact q1
 have oO:jJ x deep Hs E c Wg rv dv fv [(5,.op (Hs.length+3) 0),(4,.op (Hs.length+2) 0)] [] (E5.frame f6) V6 (a5.put none undef):=by
  refine⟨⟨IU,cF.ah.tok.frame _,cF.ah.size⟩,cF.lo.trans (Env.GK E5 f6),cF.main,cF.defers,cF.deaf,cF.er,cF.ed,cF.ef,cF.dr.frame f6,cF.dd.frame f6,cF.df.frame f6,λb y e=> ?_,cF.ne⟩;obtain⟨q1,q2,q3⟩:=cF.fr b y e;refine⟨?_,q2,q3⟩;show (if b=c\/b=Wg then none else E5.fr b)=some y;rw[if_neg (λe=>e.elim q2 q3)];exact q1
 show WP true SC none (.seq (cf (cs (cs mN))) (cs (cs (cs mN)))) Q (a5.put none undef) V6;refine wp_seq ?_;refine oO.to (jE Hs) (iJ Hs Kn.zero) ?_ λE7 V7 a7 oS Cz=> ?_
 ·show aQ true SC none 35 (cf (cs (cs mN))) _ _;unfold jE dC iJ;refine ak ?_;exact eE (by simp only[seval];simp[bw,Wk.refl]) rfl
 refine wp_block (id:=2) (c:=.loop aaL) ?_;have cV:Ey x deep (p+1) Hs E c Wg rv dv fv [] Kn.zero (jE Hs) [] E7 V7 a7:=⟨by rw[SI];exact Cz,by rw[oS.role,aqC],.nil,Dk,WK,λj hj=>by cases hj⟩;refine wp_loop (λm a' V'=>∃E' js D,m=p+1-js.length/\Ey x deep (p+1) Hs E c Wg rv dv fv js D (jE Hs) [] E' V' a') _ ⟨E7,[],Kn.zero,rfl,cV⟩ λm a8 V8 hI=> ?_;obtain⟨E8,js,D,rfl,h8⟩:=hI;have hlen:∀js:List Nat,js.Nodup->(∀j∈js,j<p+1)->js.length<=p+1:=λjs hn hl=>by
  have:=hn.length_le_of_subset (l₂:=SZ (p+1)) λj hj=>by simpa using hl j hj
  simpa using this
 refine amf hx hA (by omega) zV b_ h8 (λj D' E9 V9 a9 hj h9=> ?_) λE9 V9 a9 G ajN MC I6 IV NA xO fW=> ?_
 ·have h1:=hlen _ h9.nodup h9.lt;simp only[SP,T8]at h1;exact⟨p+1-(js++[j]).length,by simp;omega,E9,js++[j],D',rfl,h9⟩
 ·have Ll:js.Perm (SZ (p+1)):=by
   refine(List.perm_ext_iff_of_nodup h8.nodup X5).2 λk=> ?_;rw[TF];exact⟨h8.lt k,fW k⟩
  exact hQ js D E9 V9 a9 G Ll h8.aaE h8.kn ajN MC I6 IV NA xO
end
theorem aiw{x:aj}{deep:Int}{p:Nat}{H:List aa}{k kp:AV->List aa->Prop}(hx:x.Ok)(hA:xv x)(hp:x.am=p)(hm:H[0]?=some .main)(hk:∀js D L,js.Perm (SZ (p+1))->oz x deep js D->bS D->L.length=5->k (.agg (D.l (H.length+5))) (H++(L++[setH D.aK]))):bk true SC 77 H [x.av,iv deep] k kp:=by
 intro E V vs hc hd;have hEm:E.main=true:=hc.obj 0 _ hm;obtain⟨jz,uN⟩:=hc.top hEm;have hn:E.n=H.length:=hc.n;refine Pk (by simp) F.f77 rfl ?_;have tw:At (E.fH false) V ⟨[(0,x.av),(1,iv deep)],H.map strip⟩ {tmps:=vs++TK (XK.ntmps-vs.size) undef,defers:=[]} 35:=by
  have:=BU (nt:=35) hc hd (by simp);exact⟨hc.agN,this.tok.fH false,this.size⟩
 have hlen:(H.map strip).length=H.length:=Tm _;have Lc:bM (H.map strip):=tw.bu.au
 suffices pM:∀Hs,H.map strip=Hs->WP true SC none vg (Ends SC XK (ii E V k kp)) {tmps:=vs++TK (XK.ntmps-vs.size) undef,defers:=[]} V from pM _ rfl
 intro Hs b_;rw[b_]at tw hlen Lc;have Ro:({tmps:=vs++TK (XK.ntmps-vs.size) undef,defers:=[]}:Act).defers=[]:=rfl;generalize({tmps:=vs++TK (XK.ntmps-vs.size) undef,defers:=[]}:Act)=a0 at tw Ro;have bT:x.l=[iv x.first,iv x.hours,iv x.am,dP x.seen,aS x.pieces,aS x.aB]:=rfl;refine wp_seq (x:=cf vg) (y:=cs vg) ?_;refine zy ⟨[(4,.op (Hs.length+2) 0),(3,.op (Hs.length+1) 0),(2,.op Hs.length 0)],Hs++[.cells x.l 76,.cells [iv deep] 3,.cells jH 88]⟩ tw ?_ λE2 V2 a2 cM uK=> ?_
 ·show aQ true SC none 35 (cf vg) _ _;simp only[aj.av];refine ak ?_;exact eE (by simp only[seval];simp[bw,Wk.refl]) rfl
 obtain⟨ti,wH⟩:∃i,SC.info? 88=some i:=Option.isSome_iff_exists.1 (by kernel_rfl);refine wp_seq (x:=cf (cs vg)) (y:=cs (cs vg)) (adQ rfl rfl (an1 rfl (d:=.both) (el:=88) (by kernel_rfl) wH λc wm=> ?_));let f3:Nat->Option Obj:=λb=>if b=c then some s9 else E2.fr b;have qA:At (E2.frame f3) (V2.upd c s9) ⟨[(11,.val (.chan (some c))),(4,.op (Hs.length+2) 0),(3,.op (Hs.length+1) 0),(2,.op Hs.length 0)],Hs++[.cells x.l 76,.cells [iv deep] 3,.cells jH 88]⟩ (a2.put (some 11) (.chan (some c))) 35:=
  ⟨uK.bu.ajg wm s9,(uK.tok.frame _).put (by rw[uK.size];omega) (.val _),(ey a2 (some 11) _).trans uK.size⟩
 refine Oh ⟨[(5,.op (Hs.length+3) 0),(4,.op (Hs.length+2) 0),(3,.op (Hs.length+1) 0),(2,.op Hs.length 0)],Hs++[.cells x.l 76,.cells [iv deep] 3,.cells jH 88,.cells [.val (.chan (some c))] 139]⟩ rfl (by kernel_rfl) qA ?_ λE4 V4 a4 pK rN=> ?_
 ·(try simp only[seval,aog,asx,amp]);exact eE (by simp only[seval];simp[bw,Wk.refl]) rfl
 refine wp_seq (x:=cf (cs (cs vg))) (y:=mN) ?_;refine zy ⟨[(6,.op (Hs.length+4) 0),(5,.op (Hs.length+3) 0),(4,.op (Hs.length+2) 0),(3,.op (Hs.length+1) 0),(2,.op Hs.length 0)],Hs++[.cells x.l 76,.cells [iv deep] 3,.cells jH 88,.cells [.val (.chan (some c))] 139,.cells [.val (.int .u64 0),.val (.int .u32 0)] 147]⟩ rN ?_ λE5 V5 a5 gN kF=> ?_
 ·show aQ true SC none 35 (cf (cs (cs vg))) _ _;refine ak ?_;exact eE (by simp only[seval];simp[bw,Wk.refl]) rfl
 obtain⟨wcs,LP,hwo,yy,CC⟩:=kF.bu.ajh (id:=Hs.length+4) (aW _ _ 4);have alH:=PP (l:=[.int .u64 0,.int .u32 0]) LP;subst alH;rw[cY]at CC;simp only[UE,T4]at CC;have P7:=kF.ar9 (t:=6) (id:=Hs.length+4) (off:=0) rfl;have QI:E5.fr=f3:=gN.le.fr.trans pK.le.fr;have v8:E5.fr c=some s9:=by rw[QI];simp[f3]
 have aG:c≠E5.blk (Hs.length+4):=λe=>kF.bu.Dz v8 (aW Hs _ 4) rfl e.symm;have QJ:∀b y,E.fr b=some y->E5.fr b=some y/\b≠c/\b≠E5.blk (Hs.length+4):=λb y hb=>by
  have h2:E2.fr b=some y:=by rw[cM.le.fr];exact hb
  have z_:b≠c:=λe=>by subst e;have:=(uK.bu.fr b y h2).1;rw[wm.1]at this;cases this
  have h5:E5.fr b=some y:=by rw[QI];simp[f3,z_,h2]
  exact⟨h5,z_,λe=>kF.bu.Dz h5 (aW Hs _ 4) rfl e.symm⟩
 generalize zX:E5.blk (Hs.length+4)=Wg at hwo yy CC P7 aG QJ;let f6:Nat->Option Obj:=λb'=>if b'=Wg then some (wgBlock SC 0 0)else E5.fr b';have RA:Conc (E5.frame f6) V5 (Hs++[.cells x.l 76,.cells [iv deep] 3,.cells jH 88,.cells [.val (.chan (some c))] 139,.gone]):=by
  have:(λb'=>if b'=Wg then some (Obj.cells #[.int .u64 0,.int .u32 0] 147 (0,0))else E5.fr b')=f6:=by
   funext b';simp only[f6,wgBlock,wgT]
  rw[<- this];exact CC
 have Cs:At (E5.frame f6) V5 ⟨[(6,.val (pW Wg 0)),(5,.op (Hs.length+3) 0),(4,.op (Hs.length+2) 0),(3,.op (Hs.length+1) 0),(2,.op Hs.length 0)],Hs++[.cells x.l 76,.cells [iv deep] 3,.cells jH 88,.cells [.val (.chan (some c))] 139,.gone]⟩ a5 35:=by
  refine⟨RA,λt av e=> ?_,kF.size⟩;by_cases ht:t=6
  ·subst ht;cases e;refine⟨by rw[kF.size];omega,?_⟩;have:a5.tmps.getD 6 undef=pW Wg 0:=P7;rw[this];exact .val _
  ·refine(kF.tok.frame f6) t av ?_;simp only[look]at e⊢;rw[if_neg (Ne.symm ht)]at e⊢;exact e
 clear CC RA;have lo6:E.Lo (E5.frame f6):=((((E.amW false).trans cM.le.lo).trans (Env.GK E2 f3)).trans (pK.le.lo.trans gN.le.lo)).trans (Env.GK E5 f6);have MI:(E5.frame f6).main=false:=gN.le.main.trans (pK.le.main.trans cM.le.main);have agK:a5.defers=[]:=gN.defers.trans (pK.defers.trans ((put_defers a2 _ _).trans (cM.defers.trans Ro)));have ro6:V5.role=.plain:=gN.role.trans (pK.role.trans (cM.role.trans jz));have de6:V5.deaf=0:=gN.deaf.trans (pK.deaf.trans (cM.deaf.trans uN));have JL:(E5.frame f6).fr c=some s9:=by show f6 c=_;simp only[f6,if_neg aG];exact v8
 have JM:(E5.frame f6).fr Wg=some (wgBlock SC 0 0):=by show f6 Wg=_;simp[f6]
 have QK:∀b y,E.fr b=some y->(E5.frame f6).fr b=some y/\b≠c/\b≠Wg:=λb y hb=>by
  obtain⟨q1,q2,q3⟩:=QJ b y hb;refine⟨?_,q2,q3⟩;show f6 b=_;simp only[f6,if_neg q3];exact q1
 generalize E5.frame f6=E6 at Cs lo6 MI JL JM QK;obtain⟨V7,g7,o7,r7,d7,wO,ES,PI⟩:=Cs.bu.Hl (id:=Hs.length) (aW _ _ 0) 6 (by simp[bT]);rw[show Hs.length=Hs.length+0 from rfl,cY]at ES;simp only[T4]at ES;have ado:=Cs.tok.mono wO;generalize hE7:({E6 with I:=V7.ab}:Env)=E7 at wO ES PI ado;obtain⟨V8,g8,o8,r8,d8,vk,ET,PJ⟩:=ES.Hl (id:=Hs.length+1) (aW _ _ 1) 1 (by simp);rw[cY]at ET;simp only[UE,T4]at ET;have adp:=ado.mono vk;generalize hE8:({E7 with I:=V8.ab}:Env)=E8 at vk ET PJ adp;obtain⟨V9,g9,o9,r9,d9,vn,xG,IY⟩:=ET.Hl (id:=Hs.length+3) (aW _ _ 3) 1 (by simp);rw[cY]at xG;simp only[UE,T4]at xG;have adq:=adp.mono vn;generalize hE9:({E8 with I:=V9.ab}:Env)=E9 at vn xG IY adq;refine WP.ghost g7 (WP.ghost g8 (WP.ghost g9 ?_));have MC:E.Lo E9:=lo6.trans ((wO.trans vk).trans vn).lo;have NA:V9.role=.plain:=r9.trans (r8.trans (r7.trans ro6));have IV:V9.deaf=0:=d9.trans (d8.trans (d7.trans de6));have xO:E9.fr=E6.fr:=vn.fr.trans (vk.fr.trans wO.fr);have n6:E6.n=Hs.length+5:=by rw[Cs.bu.n];simp
 have b7:∀k,k<Hs.length+5->E9.blk k=E6.blk k/\E9.blk k=E7.blk k/\E9.blk k=E8.blk k:=λk hk=>by
  have n7:=wO.n;have n8:=vk.n;have q7:=wO.blk k (by omega);have q8:=vk.blk k (by omega);have q9:=vn.blk k (by omega);exact⟨by rw[q9,q8,q7],by rw[q9,q8],q9⟩
 obtain⟨c1,c2,c3⟩:=xG.fr c s9 (by rw[xO];exact JL);obtain⟨v1,v2,v3⟩:=xG.fr Wg _ (by rw[xO];exact JM);refine asj (c:=c) (Wg:=Wg) rfl NA aG c1 (by rw[v1];simp) v2 ?_;let Il:View:={V9 with role:=.fork c Wg []};have agB:Conc (E9.frame E9.fr) Il (Hs++(dC x deep c++[])):=by
  refine xG.yR (V':=Il) _ rfl (λ_ _ _ _ _ _ h=>h) (λg hg=> ?_) (λg hg=> ?_) (λhm=>by rw[vn.main,vk.main,wO.main,MI]at hm;cases hm) xG.fr
  ·cases hg;exact⟨by show V9.own Wg≠none;rw[v1];simp,v2,v3⟩
  ·cases hg;exact⟨by show V9.own c≠none;rw[c1];simp,c2,c3⟩
 have dr9:ap E9 (.rp x.l) (.pointer (some ⟨E9.blk Hs.length,0,none⟩)):=by
  have h7:=(PI.mono vk).mono vn;rw[<- (b7 Hs.length (by omega)).1]at h7;rwa [SS (by simp[bT])]at h7
 have dd9:ap E9 (.rp [iv deep]) (.pointer (some ⟨E9.blk (Hs.length+1),0,none⟩)):=by
  have h8:=PJ.mono vn;rw[<- (b7 (Hs.length+1) (by omega)).2.1]at h8;exact h8
 have I6:ap E9 (.rp [.val (.chan (some c))]) (.pointer (some ⟨E9.blk (Hs.length+3),0,none⟩)):=by
  rw[<- (b7 (Hs.length+3) (by omega)).2.2]at IY;exact IY
 have K9:jJ x deep Hs E c Wg (.pointer (some ⟨E9.blk Hs.length,0,none⟩)) (.pointer (some ⟨E9.blk (Hs.length+1),0,none⟩)) (.pointer (some ⟨E9.blk (Hs.length+3),0,none⟩)) [(6,.val (pW Wg 0)),(5,.op (Hs.length+3) 0),(4,.op (Hs.length+2) 0),(3,.op (Hs.length+1) 0),(2,.op Hs.length 0)] [] E9 Il a5:=
  ⟨⟨agB,adq,Cs.size⟩,MC,vn.main.trans (vk.main.trans (wO.main.trans MI)),agK,IV,rfl,rfl,rfl,dr9,dd9,I6,λb y hb=>by rw[xO];exact QK b y hb,aG⟩
 refine amg hx hA hp (by omega) Lc ⟨K9,rfl,by rw[xO];exact JL,by rw[xO];exact JM⟩ λjs D E11 V11 a11 G Ll dW bF Rq amV agJ agG apE ajf=> ?_;subst b_;have cg:=Kn.len bF (H.length+5);let L5:List aa:=[.part 6 x.l 76,.part 1 [iv deep] 3,.cells (D.l (H.length+5)) 88,.part 1 [.val (.chan (some c))] 139,.gone];rw[hlen]at Rq;refine⟨agJ,apC (P:=SC) (rs:=[.cell 4 88]) (H:=H) (L:=L5++[setH D.aK]) (G:=G) (T:=[(4,.op (H.length+2) 0)]) (av:=.agg (D.l (H.length+5))) rfl Rq amV hc (apE.trans jz.symm) (agG.trans uN.symm) ajf ?_ rfl ?_ ?_ (hk js D L5 Ll dW bF rfl)⟩
 ·have hg:(H.map strip++(L5++[setH D.aK]++G))[H.length+2]?=some (.cells (D.l (H.length+5)) 88):=by
   have:=aW (H.map strip) (L5++[setH D.aK]++G) 2;rw[hlen]at this;exact this
  have aF:TU 28 (D.l (H.length+5))=D.l (H.length+5):=SS (by omega);generalize hLG:H.map strip++(L5++[setH D.aK]++G)=LG at hg;try simp only[seval,iw,vv,hg,cg,aF,aa.cellsOf]
 ·have hl:H.length=(H.map strip).length:=hlen.symm;intro y hy;have akC:(H.map strip++(L5++[setH D.aK])).length=H.length+6:=by simp[L5]
  rw[akC];rcases SV.1 hy with h|h
  ·exact(Lc y h).mono (by omega)
  ·simp only[L5,SL,SV,S0,or_false]at h;rcases h with(rfl|rfl|rfl|rfl|rfl)|rfl
   ·exactλa ha=>GN x _ a ha
   ·intro a ha;simp at ha;subst ha;exact .val _
   ·exact yD (by omega)
   ·intro a ha;simp at ha;subst ha;exact .val _
   ·trivial
   ·trivial
 ·refine .agg λa ha=> ?_;exact yD (by simp[L5]) a ha
namespace Tk
theorem R0{x:aj}{bh:Nat}(h0:0<=x.first)(h90:x.first<=90)(hp:0<=x.am/\x.am<=3):∀(d:Nat)(pre:List Int),pre.length+d<=4->pre.head?=some x.first->(∀a∈pre,x.first<=a/\a<=x.first+3* (pre.length-1:Nat))->∀h∈nh x bh d pre,h.length=4/\h.head?=some x.first/\∀a∈h,x.first<=a/\a<=x.first+9
 |0,pre,hl,hh,ha,h,hm=>by
  unfold nh at hm;split at hm
  ·rw[S9]at hm;subst hm;have aG:pre≠[]:=λe=>(by rw[e]at hh;cases hh);have c_:0<pre.length:=Vt.2 aG;have uW:pre.getLastD 0∈pre:=by
    rw[Vf,XM aG];exact Zo aG
   refine⟨by simp[cQ];omega,by rw[cQ,WL,hh];rfl,λa hm=> ?_⟩;have K3:a∈pre:=by
    rcases SV.1 hm with h|h
    ·exact h
    ·rw[(Xu.1 h).2];exact uW
   have:=ha a K3;omega
  ·cases hm
 |d+1,pre,hl,hh,ha,h,hm=>by
  unfold nh at hm;split at hm
  ·obtain⟨n,hn,hm⟩:=S6.1 hm;have jh:n<x.am.toNat+1:=(by simpa using hn);split at hm
   ·cases hm
   ·have aG:pre≠[]:=λe=>(by rw[e]at hh;cases hh);have c_:0<pre.length:=Vt.2 aG;have uW:pre.getLastD 0∈pre:=by
     rw[Vf,XM aG];exact Zo aG
    refine R0 h0 h90 hp d _ (by simp;omega) (by rw[WL,hh];rfl) (λa K3=> ?_) h hm;rw[SP,T8];rcases SV.1 K3 with h'|h'
    ·have:=ha a h';omega
    ·rw[S9]at h';subst h';have:=ha _ uW;omega
  ·cases hm
theorem RV{x:aj}{bh:Nat}(hx:x.Ok){h:List Int}(hm:h∈kZ x bh):mY h:=by
 have hf:=hx.first;have hh:=hx.hours;have hp:=hx.am;obtain⟨h1,h2,h3⟩:=R0 (bh:=bh) hf.1 hf.2 ⟨by omega,hp.2⟩ x.hours.toNat [x.first] (by simp;omega) rfl (λa ha=>by rw[S9]at ha;subst ha;simp) h hm;refine⟨h1,λa ha=>by have:=h3 a ha;omega,λa ha=>by have:=h3 a ha;omega,?_⟩
 match h,h1,h2,h3 with
 |[a,b,c,d],_,h2,h3=>
  have ha:a=x.first:=by simpa using h2
  have:=h3 d (by simp);simp;omega
theorem abC:∀{qs:List Nat}{u:Nat}{t ns:List Nat},ns∈lj qs u t->∃l,ns=t++l/\l.length=qs.length/\∀(i n q:Nat),l[i]?=some n->qs[i]?=some q->n<9/\q.testBit n=true
 |[],u,t,ns,h=>by
  simp only[lj,S9]at h;exact⟨[],by simp[h],rfl,λi n q h1=>by cases h1⟩
 |q::qs,u,t,ns,h=>by
  simp only[lj,S6]at h;obtain⟨n,hn,h⟩:=h;split at h
  ·cases h
  ·rename_i hc;obtain⟨l,h1,h2,h3⟩:=abC h;refine⟨n::l,by rw[h1];simp,by simp[h2],λi m q' h4 h5=> ?_⟩
   match i with
   |0=>
    cases h4;cases h5;refine⟨by simpa using hn,?_⟩;simp at hc;exact hc.2
   |i+1=>exact h3 i m q' h4 h5
theorem abO{k:Nat}{ns:List Nat}:∀{qs:List Nat}{u:Nat}{t os:List Nat},os∈mR k ns qs u t->∃l,os=t++l/\l.length=qs.length/\∀n∈l,n<k
 |[],u,t,os,h=>by
  simp only[mR,S9]at h;exact⟨[],by simp[h],rfl,λn h1=>by cases h1⟩
 |q::qs,u,t,os,h=>by
  simp only[mR,S6]at h;obtain⟨n,hn,h⟩:=h;split at h
  ·cases h
  ·obtain⟨l,h1,h2,h3⟩:=abO h;refine⟨n::l,by rw[h1];simp,by simp[h2],λm hm=> ?_⟩;rcases SL.1 hm with rfl|hm
   ·simpa using hn
   ·exact h3 m hm
theorem N2:∀{h:List Int}{i:Nat}{n a:Int},h.head?=some a->a<=n->n<h.getLastD 0->0<=fP i h n
 |[],i,n,a,h1,_,_=>by cases h1
 |[b],i,n,a,h1,h2,h3=>by
  simp at h1 h3;omega
 |b::c::l,i,n,a,h1,h2,h3=>by
  have:b=a:=by simpa using h1
  subst this;unfold fP;split
  ·omega
  ·rename_i hc;exact N2 (a:=c) rfl (by omega) (by simpa[Vf]using h3)
theorem arP{x:aj}{h:List Int}{ns os:List Nat}(hx:x.Ok)(hh:mY h)(hn:ns∈gD x h)(ho:os∈iK x h ns):jK x (dH h ns os):=by
 obtain⟨l,e1,e2,e3⟩:=abC hn;simp only[UK]at e1;subst e1;obtain⟨m,g1,g2,g3⟩:=abO ho;simp only[UK]at g1;subst g1;rw[Tm]at e2 g2;have h4:=hh.len;have F6:=hx.eN;have pS:=hx.dx;have C8:(dH h ns os).take 4=h:=by
  unfold dH;rw[SA,Tw (by omega),SS (by omega)]
 have cN:(lP 4 ns).length=4:=AW (by omega);have hg:∀p,p<ns.length->(dH h ns os)[4+p]?=(ns[p]?).map λn:Nat=>(n:Int):=λp hp=>by
  unfold dH;rw[SA,S8 (by omega),SY (by omega),h4,TS];unfold lP;rw[SY (by simpa using hp),Tn]
 refine⟨by simp[dH,h4,cN,AW (k:=3) (l:=os) (by omega)],by rw[C8];exact hh,λp hp=> ?_,λs hs=> ?_⟩
 ·obtain⟨n,CV⟩:=cD (xs:=ns) (i:=p) (by omega);obtain⟨y,hy⟩:=cD hp;obtain⟨q1,q2⟩:=e3 p n (cm h y) CV (by rw[Tn,hy];rfl);refine⟨n,by rw[hg p (by omega),CV];rfl,q1,?_⟩;rw[C8];unfold cm at q2;rw[BV]at q2;simp only[Ti,lY,decide_eq_true_eq]at q2;obtain⟨a,b,c,d,rfl,_⟩:=hh.out;have e0:(dH [a,b,c,d] ns os).getD 0 0=a:=rfl;rw[e0];have:=q2.2.1.1;simp at this;exact N2 (a:=a) rfl (by omega) (by simp;omega)
 ·obtain⟨o,Lg⟩:=cD (xs:=os) (i:=s) (by omega);refine⟨o,?_,by have:=g3 o (Td Lg);omega⟩;unfold dH;rw[S8 (by simp[h4,cN]),show (h++lP 4 ns).length=8 by simp[h4,cN],TS];unfold lP;rw[SY (by have:=e_ Lg;simpa using this),Tn,Lg];rfl
end Tk
theorem D9{x:aj}(hx:x.Ok):xv x:=λbh _ h hm=>by
 have hh:=RV hx hm;refine⟨hh,λns iR a ha=> ?_⟩;obtain⟨os,h1,rfl⟩:=Tl.1 ha;exact arP hx hh iR h1
open Go.Conc
section
variable {lv:Bool}{P:SJ}{s:AS}{ms:List Nat}{bs:List UW}{nt:Nat}
theorem ai2{f:TO}{fn:Yz}{c0 c1 c2:Ua}{rs:List UN}{H:List aa}{args:List AV}{k kp:AV->List aa->Prop}(hf:P.funcs[f]?=some fn)(hb:fn.body=some (.seq c0 (.seq c1 c2)))(hr:fn.results=rs.toArray)(hn:fn.ntmps=nt)(cS:args.length<=nt)
  (h:bM H->(∀a∈args,Lt H.length a)->aQ lv P none nt c0 ⟨bt 0 args,H⟩ λe s0=>e=.normal/\Bh lv P nt c1 s0 [] (λe s' nM=>e=.normal/\∃c,nM=[c]/\∀bs,kP lv P nt bs c2 s' [] (zl lv P rs H.length c k kp))):bk lv P f H args k kp:=by
 intro E V vs hc hd;have hlt:∀a∈args,Lt H.length a:=λa ha=>by
  obtain⟨i,hi⟩:=p7 ha;rw[<- hc.n];exact(hd.2 i a hi).lt
 have ah:=BU (nt:=nt) hc hd cS;refine agm (by simp) hf hb ?_;rw[hn];refine wp_seq (h hc.au hlt E V _ _ ah λae e E0 V0 a0 s0 uU tw he0 hΦ0=> ?_);obtain⟨rfl,yx⟩:=hΦ0;cases e<;>first
  |exact he0.elim
  |skip
 have akd:a0.defers=[]:=uU.defers;refine wp_seq (yx E0 V0 a0 _ tw (by rw[akd];trivial) λae e E1 V1 a1 s1 ds1 akz we cW CG hΦ1=> ?_);obtain⟨rfl,c,rfl,hw⟩:=hΦ1;have iP:=uU.d.trans akz;cases e<;>first
  |exact CG.elim
  |skip
 obtain⟨d,jw,bm⟩:∃d,a1.defers=[d]/\ze E1 c d:=by
  match jw:a1.defers,cW with
  |[d],cW=>exact⟨d,rfl,cW.1⟩
  |[],cW=>exact cW.elim
  |_::_::_,cW=>exact cW.2.elim
 refine hw [d] E1 V1 a1 _ we ⟨by simp[jw],by simp⟩ λae e E' V' a' s' cI hk aV gA he hΦ=> ?_;have hle:E.Le E':=iP.le.trans hk.le;have fin:∀(md:U6)(m:Option AV)(H':List aa),(md matches .run)=false->i_ cI s'.H=some H'->Oz E' m md->rh lv P c H' m (λH'=>ao (iw P ⟨s'.T,H'⟩ rs) λl=>cK H.length H' (jm l) k) (λH'=>∀pv,m=some pv->cK H.length H' pv kp)->ur lv P fn (ii E V k kp) a'.defers md a'.tmps V':=by
  intro md m H' qI hg Sk hD;refine adE qI cI _ H' E' V' _ hg aV.bu gA λV2 r1 r2 cU=> ?_;have aka:=bm.mono hk.le;refine⟨qI,.inr ⟨?_,?_⟩⟩
  ·obtain⟨f,first,c9,fa,ca,vs,h1,rfl,h3,h4,h5⟩:=bm;exact⟨_,_,rfl⟩
  ·refine(hD E' V2 d md cU aka Sk).mono (λnx aT hx=> ?_) λ_ _ h=>h;obtain⟨g,args,rfl,Ck⟩:=hx;refine⟨g,args,rfl,Ck.mono λoi V3 hx=> ?_⟩;obtain⟨E3,H3,q1,q2,q3,q4,q5|q5⟩:=hx
   ·obtain⟨rfl,q5⟩:=q5;exact ace (s':=⟨s'.T,H3⟩) (a':=a') hr ⟨q4,aV.tok.mono q1,aV.size⟩ (hle.trans q1) hc.n (q2.trans (r1.trans (hk.role.trans iP.role))) (q3.trans (r2.trans (hk.deaf.trans iP.deaf))) q5
   ·obtain⟨rfl,uY,q5⟩:=q5;cases m with
    |none=>cases uY
    |some pv=>
     obtain⟨v,rfl,mH⟩:=Sk;obtain⟨b,bW,ul,t1,t2,t3,t4⟩:=xI (q5 pv rfl) q4 (mH.mono q1) (hle.trans q1) hc.n;exact⟨b,v,bW,ul,rfl,t1,q2.trans (r1.trans (hk.role.trans iP.role)),q3.trans (r2.trans (hk.deaf.trans iP.deaf)),t2,t3,t4⟩
 have aiT:zl lv P rs H.length c k kp .ret s' cI->ur lv P fn (ii E V k kp) a'.defers .returning a'.tmps V':=λhΦ=>by
  obtain⟨H',hg,hΦ⟩:=ao.out hΦ;refine fin .returning none H' rfl hg rfl λE2 V2 d2 MM c1 c2 c3=> ?_;refine(hΦ E2 V2 d2 MM c1 c2 c3).mono (λnx aT hx=> ?_) λ_ _ h=>h;obtain⟨g,args,rfl,Ck⟩:=hx;refine⟨g,args,rfl,Ck.mono λoi V3 hx=> ?_⟩;obtain⟨E3,H3,q1,q2,q3,q4,q5|q5⟩:=hx
  ·exact⟨E3,H3,q1,q2,q3,q4,.inl q5⟩
  ·exact q5.2.2.elim
 cases ae<;>cases e<;>first
  |exact he.elim
  |exact aiT hΦ
  |exact hΦ.elim
  |skip
 rename_i pv ch;obtain⟨v,fx,akb⟩:∃v,ch=[{v,recovered:=false}]/\ap E' pv v:=he;subst fx;obtain⟨H',hg,hΦ⟩:=ao.out hΦ;refine fin _ (some pv) H' rfl hg ⟨v,rfl,akb⟩ λE2 V2 d2 MM c1 c2 c3=> ?_;refine(hΦ E2 V2 d2 MM c1 c2 c3).mono (λnx aT hx=> ?_) λ_ _ h=>h;obtain⟨g,args,rfl,Ck⟩:=hx;refine⟨g,args,rfl,Ck.mono λoi V3 hx=> ?_⟩;obtain⟨E3,H3,q1,q2,q3,q4,q5|q5⟩:=hx
 ·exact⟨E3,H3,q1,q2,q3,q4,.inl q5⟩
 ·exact⟨E3,H3,q1,q2,q3,q4,.inr ⟨q5.1,q5.2.1,λpv' e=>by cases e;exact q5.2.2⟩⟩
end
open Go.Proofs Go.Gg.Tk
namespace Tk
def vZ (x:aj):Bool:=(SZ (x.am.toNat+1)).any λbh=>(kZ x bh).any λh=> !(jG x 0 h).isEmpty
end Tk
def vt:AV:=.dh 136 (.agg [])
section
variable {lv:Bool}{H:List aa}{kr kp:List aa->Prop}
theorem aiF{r:Nat}(h:∀L,kr (H++L)):rh lv SC (.fn (.func 95) [] [.op r 0],[]) H none kr kp:=by
 refine PG (nt:=9) (by kernel_rfl) F.f95 rfl rfl rfl rfl rfl rfl rfl rfl (by kernel_rfl) (by simp) ?_;simp only[bt,SX,UK,Vm];(try simp only[seval,F.Md]);refine eC (a:=[]) rfl ⟨rfl,by decide,by simp,?_⟩;refine ak ?_;refine aD ?_;refine afH ?_;exact .inl (h _)
theorem aiG{r:Nat}{a:AV}(hr:H[r]?=some (.cells [a] 4))(h:∀L,kr (H.set r (.cells [bv true] 4)++L)):rh lv SC (.fn (.func 95) [] [.op r 0],[]) H (some vt) kr kp:=by
 refine PG (nt:=9) (by kernel_rfl) F.f95 rfl rfl rfl rfl rfl rfl rfl rfl (by kernel_rfl) (by simp) ?_;simp only[bt,SX,UK,S7,vt];(try simp only[seval,F.Md]);have u7:=e_ hr;have yn:∀L:List aa,(H++L)[r]?=some (.cells [a] 4):=λL=>eI hr;refine ak ?_;refine aD ?_;refine ai ?_;simp only[seval,yn,vC u7];exact .inl (h _)
end
def rD (x:aj)(m:Lp)(h:List Int):dJ Lp:=if(jG x 0 h).isEmpty then .go .ready else .bad .busy
theorem Pr{x:aj}:∀(l:List (List Int)),bI (rD x) l .ready=if l.any (λh=> !(jG x 0 h).isEmpty)=true then .bad .busy else .go .ready
 |[]=>by simp[bI]
 |h::l=>by
  have ih:=Pr (x:=x) l;by_cases he:(jG x 0 h).isEmpty=true
  ·have e1:rD x .ready h=.go .ready:=(by unfold rD;rw[if_pos he]);rw[bI,e1];dsimp only;rw[ih];simp only[YP,he,aj',Zu]
  ·have e1:rD x .ready h=.bad .busy:=(by unfold rD;rw[if_neg he]);rw[bI,e1];dsimp only;have e2:(jG x 0 h).isEmpty=false:=(by simpa using he);simp only[YP,e2,YA,af',if_true]
theorem afV(l:List (List Int)):bI (λ(_:Lp) (_:List Int)=>(.bad .busy:dJ Lp)) l .ready=if l.isEmpty then .go .ready else .bad .busy:=by
 cases l<;>rfl
def BZ (x:aj)(i:Nat):List aa:=[.cells x.l 76,.cells [iv i] 3,.obj (.deferred (some [])),.gone]
def kS (x:aj)(H:List aa):Nat->List aa
 |0=>H++[.cells x.l 76,.cells [bv false] 4]
 |i+1=>kS x H i++BZ x i
def xE (H:List aa):Nat->List Nat
 |0=>[]
 |i+1=>(H.length+2+4* i+2)::xE H i
theorem IN(x:aj)(H:List aa):∀i,(kS x H i).length=H.length+2+4* i
 |0=>by simp[kS]
 |i+1=>by simp[kS,BZ,IN x H i];omega
theorem Pq(x:aj)(H:List aa):∀i,∃Y,kS x H i=H++[.cells x.l 76,.cells [bv false] 4]++Y
 |0=>⟨[],by simp[kS]⟩
 |i+1=>by
  obtain⟨Y,h⟩:=Pq x H i;exact⟨Y++BZ x i,by rw[kS,h,SA]⟩
theorem IM(x:aj)(H:List aa):∀(i:Nat)(L:List aa),∃Y,i_ (xE H i) (kS x H i++L)=some (H++[.cells x.l 76,.cells [bv false] 4]++Y)
 |0,L=>⟨L,by rw[xE,zS,kS]⟩
 |i+1,L=>by
  have hl:=IN x H i;have e:(kS x H (i+1)++L)=kS x H i++(BZ x i++L):=by rw[kS,SA]
  have hg:(kS x H i++(BZ x i++L))[H.length+2+4* i+2]?=some (.obj (.deferred (some []))):=by rw[<- hl,aW];rfl
  obtain⟨Y,hY⟩:=IM x H i ([.cells x.l 76,.cells [iv i] 3,.gone,.gone]++L);refine⟨Y,?_⟩;rw[xE,e,zQ hg,<- hl,cY];exact hY
theorem Pp(x:aj)(H:List aa)(i:Nat)(L:List aa):(kS x H i++L)[H.length]?=some (.cells x.l 76)/\(kS x H i++L)[H.length+1]?=some (.cells [bv false] 4):=by
 obtain⟨Y,h⟩:=Pq x H i;rw[h,SA,SA];exact⟨aW H _ 0,aW H _ 1⟩
section
variable {lv:Bool}
theorem ai8{P:SJ}(rs:List UN)(n:Nat)(c:AV×List AV)(k kp:AV->List aa->Prop)(pv:AV)(s:AS)(ms:List Nat):zl lv P rs n c k kp (.panic pv) s ms=ao (i_ ms s.H) λH'=>rh lv P c H' (some pv) (λH'=>ao (iw P ⟨s.T,H'⟩ rs) λl=>cK n H' (jm l) k) (λH'=>cK n H' pv kp):=by rw[zl]
theorem ai9{P:SJ}(rs:List UN)(n:Nat)(c:AV×List AV)(k kp:AV->List aa->Prop)(s:AS)(ms:List Nat):zl lv P rs n c k kp .ret s ms=ao (i_ ms s.H) λH'=>rh lv P c H' none (λH'=>ao (iw P ⟨s.T,H'⟩ rs) λl=>cK n H' (jm l) k) (λ_=>False):=by rw[zl]
theorem ait{H:List aa}{k kp:AV->List aa->Prop}{x:aj}(hx:x.Ok)(hk:k (bv (vZ x)) H):bk lv SC 71 H [x.av] k kp:=by
 refine ai2 (rs:=[.cell 2 4]) (nt:=24) F.f71 rfl rfl rfl (by simp) λhH hA=> ?_;simp only[bt,SX,aj.av];have JS:=D9 hx;have hp:=hx.am;obtain⟨p,dQ⟩:∃p:Nat,x.am=p:=⟨x.am.toNat,by omega⟩;have bT:x.l=[iv x.first,iv x.hours,iv x.am,dP x.seen,aS x.pieces,aS x.aB]:=rfl;have aP:∀(L:List aa),(H++L)[H.length]?=L[0]?:=λL=>aW H L 0;have hw:SE.wrap (x.am+1)=((p+1:Nat):Int):=by rw[dQ,bG _ (by omega)];rfl
 refine ai ?_;simp only[seval,F.OG];refine Pa (n:=1) rfl rfl rfl rfl rfl rfl (by kernel_rfl) ?_;(try simp only[seval,T_,UC,Uj,TP]);refine⟨⟨_,_,_,rfl⟩,_,rfl,λbs=> ?_⟩;refine EN ?_;refine sZ ?_;refine ai ?_;simp only[seval,aP,bT,hw];refine xB ?_;refine Pb (measure λi=>p+1-i).wf (λi:Nat=>⟨[(10,iv i),(9,iv ((p+1:Nat):Int)),(2,.op (H.length+1) 0),(1,.op H.length 0)],kS x H i⟩) (λi=>xE H i) (λi=>i<=p+1/\∀j,j<i->∀h∈kZ x j,(jG x 0 h).isEmpty=true) 0 (eE (by simp only[seval];simp[bw,Wk.refl]) rfl) rfl ⟨by omega,λj hj=>by omega⟩ λi au=> ?_;obtain⟨oR,fM⟩:=au;have cT:=IN x H i;have nd:=λL=>(Pp x H i L).1;have uL:=λL=>(Pp x H i L).2;obtain⟨N,hN⟩:∃N,N=H.length+2+4* i:=⟨_,rfl⟩;rw[<- hN]at cT;have Rv:(kS x H i)[H.length]?=some (.cells x.l 76):=by have:=nd [];rwa [SI]at this
 refine sZ ?_;refine ak ?_;refine sZ ?_;refine aD ?_;refine⟨λh=> ?_,λh=> ?_⟩
 ·
  have qD:i<=3:=by omega
  refine aN ?_;refine EN ?_;refine xB ?_;refine sZ ?_;refine ak ?_;refine sZ ?_;refine ai ?_;simp only[seval,Rv,bT];refine aI ((Jt (x:=x) (n:=i) ?_));rw[cT];(try simp only[seval]);refine xB ?_;refine IE (by rfl) λl fn T ag bo hT xZ qB=> ?_;have nX:(kS x H i++[aa.cells x.l 76,aa.cells [iv i] 3]).length=N+2:=by rw[SP,cT];rfl
  (try simp only[seval]);rw[cT];obtain⟨B,hB⟩:∃B,B=kS x H i:=⟨_,rfl⟩;rw[<- hB]at cT Rv nd uL⊢;have bg:∀(L:List aa)(j:Nat),(B++L)[N+j]?=L[j]?:=λL j=>by rw[<- cT,aW]
  have EQ:∀(L:List aa)(j:Nat)(y:aa),(B++L).set (N+j) y=B++L.set j y:=λL j y=>by rw[<- cT,cY]
  have RD:∀(M:List aa)(lp:Lp),bM (B++([aa.cells x.l 76,.cells [iv i] 3,.obj (.deferred (some [])),.loop l .ready none fn T 24 #[16] ag bo (N+2)]++M))->bM (B++([aa.cells x.l 76,.cells [iv i] 3,.obj (.deferred (some [])),.loop l lp.st lp.pe fn T 24 #[16] ag bo (N+2)]++M)):=λM lp iF z hz=>by
   have hlen:(B++([aa.cells x.l 76,.cells [iv i] 3,.obj (.deferred (some [])),.loop l lp.st lp.pe fn T 24 #[16] ag bo (N+2)]++M)).length=(B++([aa.cells x.l 76,.cells [iv i] 3,.obj (.deferred (some [])),.loop l .ready none fn T 24 #[16] ag bo (N+2)]++M)).length:=(by simp);have hl:=iF (.loop l .ready none fn T 24 #[16] ag bo (N+2)) (by simp);rw[hlen];rcases SV.1 hz with h'|h'
   ·exact iF z (Tf _ h')
   ·rcases SV.1 h' with h'|h'
    ·simp only[SL,S0,or_false]at h';rcases h' with rfl|rfl|rfl|rfl
     ·exact iF _ (by simp)
     ·exact iF _ (by simp)
     ·exact iF _ (by simp)
     ·exact hl
    ·exact iF z (S4 _ (S4 _ h'))
  have hY:j6 lv SC (.fn (.yield l) [] []) (rD x) (λlp:Lp=>B++[.cells x.l 76,.cells [iv i] 3,.obj (.deferred (some [])),.loop l lp.st lp.pe fn T 24 #[16] ag bo (N+2)]) (N+4) (λlp=>lp=.ready) (λh=>mY h/\∀ns∈gD x h,∀a∈(iK x h ns).map (dH h ns),jK x a) vt:=by
   refine⟨λlp h M k kp im ha dX=> ?_,λlp h Dr im ha he=> ?_,λlp=>by simp[cT],λm lp Dr hz z fB=> ?_,rfl,rfl,rfl⟩
   ·replace im:lp=.ready:=im;subst im;obtain⟨pH,C9⟩:=ha;have h4:=pH.len;have nQ:(h.map iv).length=4:=(by rw[Tm,h4]);obtain⟨Lo,lC⟩:∃Lo,Lo=aa.loop l .busy none fn T 24 #[16] ag bo (N+2):=⟨_,rfl⟩;obtain⟨P1,dD⟩:∃P1:List aa,P1=B++([.cells x.l 76,.cells [iv i] 3,.obj (.deferred (some [])),Lo]++M):=⟨_,rfl⟩;have eJ:P1.length=N+4+M.length:=(by rw[dD];simp[cT];omega);have pg3:∀(L:List aa),(P1++L)[N+3]?=some Lo:=λL=>(by rw[dD,SA,bg];rfl);have px:∀(L:List aa),(P1++L)[H.length]?=some (.cells x.l 76):=λL=>(by rw[dD,SA];exact nd _);have pb:∀(L:List aa)(j:Nat),(P1++L)[N+4+M.length+j]?=L[j]?:=λL j=>(by rw[<- eJ,aW]);have wX:∀(L:List aa),(P1++L)[N+4+M.length]?=L[0]?:=λL=>pb L 0;have qe:∀(L:List aa)(y:aa),(P1++L).set (N+4+M.length+4) y=P1++L.set 4 y:=λL y=>(by rw[<- eJ,cY]);have s3:∀(L:List aa) y,(P1++L).set (N+3) y=B++([.cells x.l 76,.cells [iv i] 3,.obj (.deferred (some [])),y]++M)++L:=λL y=>by
     rw[dD,SA,EQ];simp
    subst hT xZ qB;rw[SA];refine vY (id:=N+3) (by rw[bg];rfl) rfl (by kernel_rfl) λoK JU=> ?_;simp only[sI];have wq:T1 4 [iv 0,iv 0,iv 0,iv 0]=[]:=rfl;refine ai ?_;simp only[seval,h4,wq];unfold uq;refine⟨none,fn,_,24,#[16],_,_,_,by rw[bg];rfl,?_⟩;dsimp only;rw[EQ];simp only[UE,T4];rw[<- lC];have xT:B.length+(M.length+1+1+1+1)=N+4+M.length:=(by rw[cT];omega);rw[xT];have yc:∀z:aa,(B++aa.cells x.l 76::aa.cells [AV.val (SF SE ↑i)] 3::aa.obj (aub (some []))::Lo::(M++[z]))=P1++[z]:=λz=>(by rw[dD];simp[iv]);rw[yc];refine ai ?_;simp only[seval,px,bT,wX,h4,nQ];rw[SS (i:=4) (l:=h.map iv) (by rw[nQ];exact SR _)];refine aI ((Ju (x:=x) (h:=h) (deep:=0) ?_));(try simp only[seval]);refine cL ?_;refine EL (N+3) (by rfl) (by show (P1++_)[N+3]?=_;rw[pg3,lC]) λl2 e9 T2 gV gW oL x6 x7=> ?_;simp only[seval];rw[eJ];have xY:j6 lv SC (.fn (.yield l2) [] []) (λ(_:Lp) (_:List Int)=>(.bad .busy:dJ Lp)) (λlp:Lp=>P1++[.cells (h.map iv) 83,.cells x.l 76,.cells (h.map iv) 83,.cells [iv 0] 3,.loop l2 lp.st lp.pe e9 T2 24 #[20] gV gW (N+2)]) (N+4+M.length+5) (λlp=>lp=.ready) (λa=>a.length=11) vt:=by
     refine⟨λlp t M2 k2 yE im ht lH=> ?_,λlp t Dr im ht he=>(by cases he),λlp=>by simp[eJ],λq lp Dr hz z fB=> ?_,rfl,rfl,rfl⟩
     ·replace im:lp=.ready:=im;subst im;simp only[dc]at lH;have mo:∀(L:List aa),(P1++L)[N+4+M.length+4]?=L[4]?:=λL=>pb L 4;subst oL x6 x7;rw[SA];refine vY (id:=N+4+M.length+4) (by rw[mo];rfl) rfl (by kernel_rfl) λrK JV=> ?_;simp only[sI];refine aN ?_;unfold uq;refine⟨none,e9,_,24,#[20],_,_,_,by rw[mo];rfl,?_⟩;dsimp only;rw[qe];simp only[UE,T4];refine ai ?_;simp only[seval,F.Md];show cK _ (P1++_) _ yE;rw[SA]at lH;exact cr lH
     ·rcases SV.1 fB with h'|h'
      ·exact hz z (Tf _ h')
      ·have hl:=hz _ (S4 _ (Td (i:=4) rfl));simp only[SL,S0,or_false]at h';rcases h' with rfl|rfl|rfl|rfl|rfl
       ·exact hz _ (S4 _ (by simp))
       ·exact hz _ (S4 _ (by simp))
       ·exact hz _ (S4 _ (by simp))
       ·exact hz _ (S4 _ (by simp))
       ·exact hl
    rw[eJ]at oL;have F1:∀n,Lt n vt:=λn=>(by simp[vt,aa1,tX]);refine bX (Jx (x:=x) (h:=h) (deep:=0) (ir:=N+4+M.length+1) (ih:=N+4+M.length+1+1) (id:=N+4+M.length+1+2) (σ:=Lp.ready) hx pH xY (λlp L=> ?_) (λlp L=> ?_) (λlp L=> ?_) F1 rfl (λa ha=>ha) (λns iR a ha=>(C9 ns iR a ha).len) ?_)
    ·rw[SA];exact pb _ 1
    ·rw[SA];exact pb _ 2
    ·rw[SA];exact pb _ 3
    rw[afV];have mo:∀(L:List aa),(P1++L)[N+4+M.length+4]?=L[4]?:=λL=>pb L 4;by_cases tD:(jG x 0 h).isEmpty=true
    ·rw[if_pos tD];have e1:rD x .ready h=.go .ready:=(by unfold rD;rw[if_pos tD]);rw[e1]at dX;simp only[dc]at dX;simp only[gH,SI];refine⟨.ready,none,_,_,_,_,_,_,_,by rw[mo];rfl,by decide,?_⟩;rw[qe,Hj];(try simp only[seval]);show pn _ _ _ _ _ _ _;refine⟨l,.busy,none,fn,_,24,#[16],_,_,N+2,by show (P1++_)[_]?=_;rw[pg3,lC],?_⟩;show cK (N+4+M.length) ((P1++_).set _ _) _ k;rw[s3];rw[SA]at dX;exact kg (G:=[.cells (h.map iv) 83,.cells x.l 76,.cells (h.map iv) 83,.cells [iv 0] 3,.gone]) (Wk.refl _) (by simp[iv];exact⟨rfl,rfl⟩) (by simp[cT];omega) (RD M .ready oK) (.val _) dX
    ·rw[if_neg tD];have e1:rD x .ready h=.bad .busy:=(by unfold rD;rw[if_neg tD]);rw[e1]at dX;simp only[dc]at dX;simp only[gH,SI];show cK (N+4+M.length) (P1++_) vt kp;rw[SA]at dX;refine kg (H':=B++([aa.cells x.l 76,.cells [iv i] 3,.obj (.deferred (some [])),.loop l Lp.busy.st Lp.busy.pe fn _ 24 #[16] _ _ (N+2)]++M)) (Wk.refl _) (by rw[dD,lC];rfl) (by simp[cT];omega) (RD M .busy oK) (F1 _) dX
   ·replace im:lp=.ready:=im;subst im;unfold rD at he;split at he
    ·cases he;rfl
    ·cases he
   ·rcases SV.1 fB with h'|h'
    ·exact hz z (Tf _ h')
    ·have hl:=hz _ (S4 _ (Td (i:=3) rfl));simp only[SL,S0,or_false]at h';rcases h' with rfl|rfl|rfl|rfl
     ·exact hz _ (S4 _ (by simp))
     ·exact hz _ (S4 _ (by simp))
     ·exact hz _ (S4 _ (by simp))
     ·exact hl
  have F1:∀n,Lt n vt:=λn=>by simp[vt,aa1,tX]
  refine bX (Jv (x:=x) (bh:=i) (ir:=N) (it:=N+1) (σ:=Lp.ready) hx hY (λlp L=> ?_) (λlp L=> ?_) qD F1 rfl (λa ha=>JS i qD a ha) ?_)
  ·rw[SA];exact bg _ 0
  ·rw[SA];exact bg _ 1
  rw[Pr];have bU:SE.wrap ((i:Int)+1)=((i+1:Nat):Int):=by rw[bG _ (by omega)];rfl
  by_cases FE:(kZ x i).any (λh=> !(jG x 0 h).isEmpty)=true
  ·rw[if_pos FE];have Kl:vZ x=true:=by
    unfold vZ;rw[UI];exact⟨i,by rw[TF];omega,FE⟩
   rw[Kl]at hk;simp only[gH,SI];(try simp only[seval,ai8]);obtain⟨Y,wb⟩:=IM x H i [.cells x.l 76,.cells [iv i] 3,.gone,.loop l .busy none fn T 24 #[16] ag bo (N+2)];rw[<- hB]at wb;have hgo:i_ ((N+2)::xE H i) (B++[.cells x.l 76,.cells [iv i] 3,.obj (.deferred (some [])),.loop l Lp.busy.st Lp.busy.pe fn T 24 #[16] ag bo (N+2)])=some (H++[.cells x.l 76,.cells [bv false] 4]++Y):=by
    rw[zQ (by rw[bg];rfl),EQ];exact wb
   refine eC hgo ?_;have dA:(H++[aa.cells x.l 76,.cells [bv false] 4]++Y)[H.length+1]?=some (.cells [bv false] 4):=(by rw[SA];exact aW H _ 1);refine aiG dA λL=> ?_;have cU:((H++[aa.cells x.l 76,.cells [bv false] 4]++Y).set (H.length+1) (.cells [bv true] 4)++L)[H.length+1]?=some (.cells [bv true] 4):=by
    rw[SA,cY,SA];exact aW H _ 1
   (try simp only[seval,iw,vv,cU,aa.cellsOf]);exact lX hH hk
  ·rw[if_neg FE];simp only[gH,SI];refine⟨.ready,none,_,_,_,_,_,_,_,by show (B++_)[N+3]?=_;rw[bg];rfl,by decide,?_⟩;rw[show N+2+1=N+3 from rfl,EQ,Hi];(try simp only[seval]);refine EM ?_;refine ai ?_;simp only[seval,bU];refine⟨i+1,?_,⟨by omega,λj hj g hm=> ?_⟩,eE (by push_cast;simp only[seval];simp[bw,Wk.refl]) (by rw[hB];rfl),by rw[xE,hN]⟩
   ·show p+1-(i+1)<p+1-i;omega
   ·by_cases cy:j<i
    ·exact fM j cy g hm
    ·have:j=i:=(by omega);subst this;apply Ts;intro aG;exact FE (UI.2 ⟨g,hm,by simpa using aG⟩)
 ·
  have dF:i=p+1:=by omega
  subst dF;have Kl:vZ x=false:=by
   unfold vZ;rw[Bool.eq_false_iff];intro hc;obtain⟨j,h1,h2⟩:=UI.1 hc;obtain⟨h,h3,h4⟩:=UI.1 h2;rw[TF]at h1;have:=fM j (by omega) h h3;rw[this]at h4;cases h4
  rw[Kl]at hk;have Rr:(kS x H (p+1))[H.length+1]?=some (.cells [bv false] 4):=by have:=uL [];rwa [SI]at this
  refine cq ?_;refine sZ ?_;refine ai ?_;simp only[seval,Rr];rw[qY Rr];refine EM ?_;refine nH ?_;rw[ai9];obtain⟨Y,wb⟩:=IM x H (p+1) [];rw[SI]at wb;refine eC wb ?_;refine aiF λL=> ?_;have cU:(H++[aa.cells x.l 76,.cells [bv false] 4]++Y++L)[H.length+1]?=some (.cells [bv false] 4):=by
   rw[SA,SA];exact aW H _ 1
  (try simp only[seval,iw,vv,cU,aa.cellsOf]);exact lX hH hk
end
open Go.Conc Go.Proofs Go.Gg.Tk
section
variable {lv:Bool}{H:List aa}{k kp:AV->List aa->Prop}
theorem te{n lo hi:Int}(hk:k (bv (decide (n<lo)||decide (n>hi))) H):bk lv SC 59 H [iv n,iv lo,iv hi] k kp:=by
 refine bL (rs:=[.tmp 6]) (nt:=15) Tryz.f59 λhH hA=> ?_;simp only[bt,SX];refine ak ?_;by_cases h:n<lo
 ·have h1:decide (n<lo)=true:=by simpa using h
  refine ai ?_;simp only[seval,h1];refine bf ?_;rw[h1,af']at hk;exact cr hk
 ·have h1:decide (n<lo)=false:=by simpa using h
  refine ai ?_;simp only[seval,h1];refine bf ?_;rw[h1,Zu]at hk;exact cr hk
theorem Jk{b:iM}{hi e at':Int}(hb:sM b hi)(hk:k (.val .nilIface) H):bk lv SC 104 H [b.av,iv hi,iv e,iv at'] k kp:=by
 refine bL (rs:=[.tmp 8]) (nt:=33) Tryz.f104 λhH hA=> ?_;simp only[bt,SX,iM.av];have h1:(decide (b.min<0)||decide (b.min>hi))=false:=by have:=hb.min;have:=hb.le;have:=hb.max;simp;omega
 have h2:(decide (b.max<0)||decide (b.max>hi))=false:=by have:=hb.min;have:=hb.le;have:=hb.max;simp;omega
 have h3:decide (b.min>b.max)=false:=by have:=hb.le;simp;omega
 refine ak ?_;refine ai ?_;simp only[seval,iM.l];refine aI ((te ?_));(try simp only[seval,h1]);refine aI ((te ?_));(try simp only[seval,h2]);refine aD ?_;refine ai ?_;simp only[seval,h3];refine aD ?_;refine aN ?_;refine ak ?_;refine bf ?_;exact lX hH hk
theorem ail(hk:k (bv true) H):bk lv SC 52 H [] k kp:=by
 refine bL (rs:=[.tmp 0]) (nt:=1) Tryz.f52 λhH hA=> ?_;simp only[bt,SX];refine ak ?_;refine ak ?_;refine bf ?_;exact cr hk
theorem ahN{t:AV}(hk:k (bv false) H):bk lv SC 105 H [.val .nilIface,t] k kp:=by
 refine bL (rs:=[.tmp 4]) (nt:=42) Tryz.f105 λhH hA=> ?_;simp only[bt,SX];refine ak ?_;refine ai ?_;simp only[seval,F.Dh];refine aD ?_;refine ak ?_;refine bf ?_;exact cr hk
theorem aiA(hk:k (iv 0) H):bk lv SC 84 H [.val .nilIface] k kp:=by
 refine bL (rs:=[.tmp 2]) (nt:=9) Tryz.f84 λhH hA=> ?_;simp only[bt,SX];refine ak ?_;refine ak ?_;refine ai ?_;simp only[seval,F.alR];refine aI ((ahN ?_));(try simp only[seval]);refine aD ?_;refine aN ?_;refine ak ?_;refine bf ?_;exact lX hH hk
theorem aiz{x:aj}{y:Seen}{at':Int}(hh:0<=y.hour/\y.hour<=x.hours)(hb:sM y.next 99)(hk:k (.val .nilIface) H):bk lv SC 83 H [x.av,y.av,iv at'] k kp:=by
 refine bL (rs:=[.tmp 6]) (nt:=19) Tryz.f83 λhH hA=> ?_;simp only[bt,SX,aj.av,Seen.av];have bT:x.l=[iv x.first,iv x.hours,iv x.am,dP x.seen,aS x.pieces,aS x.aB]:=rfl;have h1:(decide (y.hour<0)||decide (y.hour>x.hours))=false:=by simp;omega
 refine ai ?_;simp only[seval,bT,Seen.l];refine ak ?_;refine aI ((te ?_));(try simp only[seval,h1]);refine aD ?_;refine aN ?_;refine ak ?_;refine aI ((Jk (b:=y.next) hb ?_));(try simp only[seval]);refine bf ?_;exact lX hH hk
theorem Ql{x:aj}{l:List aC}(hx:x.Ok)(hl:∀y∈l,If x y)(qF:l.length<=4)(hk:k (.val .nilIface) H):bk lv SC 85 H [x.av,aS l] k kp:=by
 refine bL (rs:=[.tmp 4]) (nt:=34) Tryz.f85 λhH hA=> ?_;simp only[bt,SX,aj.av];have bT:x.l=[iv x.first,iv x.hours,iv x.am,dP x.seen,aS x.pieces,aS x.aB]:=rfl;have aP:∀(L:List aa),(H++L)[H.length]?=L[0]?:=λL=>aW H L 0;have KO:=hx.hours;have yx:SE.wrap (x.hours-1)=x.hours-1:=bG _ (by omega);refine ai ?_;simp only[seval,bT];refine ai ?_;simp only[seval,aS];refine cL ?_;refine sY l.length (λi:Nat=>[(11,iv i)]) (λ_=>_) (λi=>True) trivial (λb_ dj i cV _ R hR=> ?_);refine ak ?_;refine aD ?_;refine⟨λh=> ?_,λh=> ?_⟩
 ·have bD:i<l.length:=by omega
  obtain⟨y,hy⟩:=cD bD;have Df:=hl y (Td hy);have bU:SE.wrap ((i:Int)+1)=((i+1:Nat):Int):=by rw[bG _ (by omega)];rfl
  refine aN ?_;refine ai ?_;simp only[seval,DY hy,j8 bD];refine ak ?_;refine aI ((Jk (b:=y.number) Df.number ?_));(try simp only[seval]);refine ai ?_;simp only[seval,F.Dh];refine aD ?_;refine aN ?_;refine ai ?_;simp only[seval,aP,yx];refine aI ((Jk (b:=y.hour) Df.hour ?_));(try simp only[seval]);refine ai ?_;simp only[seval,F.Dh];refine aD ?_;refine aN ?_;refine ai ?_;simp only[seval,bU];exact hR _ ⟨bD,trivial,A0 (qS rfl rfl) (by simp only[seval];simp[bw,Wk.refl]) b_ (by simp[fe])⟩
 ·refine cq ?_;refine ak ?_;refine bf ?_;exact lX hH hk
theorem Js{x:aj}(hx:x.Ok)(hk:k (iv 0) H):bk lv SC 62 H [x.av] k kp:=by
 refine bL (rs:=[.tmp 2]) (nt:=62) Tryz.f62 λhH hA=> ?_;simp only[bt,SX,aj.av];have bT:x.l=[iv x.first,iv x.hours,iv x.am,dP x.seen,aS x.pieces,aS x.aB]:=rfl;have aP:∀(L:List aa),(H++L)[H.length]?=L[0]?:=λL=>aW H L 0;have h1:(decide (x.first<0)||decide (x.first>90))=false:=by have:=hx.first;simp;omega
 have h2:(decide (x.hours<1)||decide (x.hours>3))=false:=by have:=hx.hours;simp;omega
 have h3:(decide (x.am<1)||decide (x.am>3))=false:=by have:=hx.am;simp;omega
 have g3:decide ((3:Int)<x.seen.length)=false:=by have:=hx.vz;simp;omega
 have g4:decide ((4:Int)<x.pieces.length)=false:=by have:=hx.eN;simp;omega
 have g5:decide ((3:Int)<x.aB.length)=false:=by have:=hx.dx;simp;omega
 refine ai ?_;simp only[seval,bT];refine ai ?_;simp only[seval,aP];refine aI ((te ?_));(try simp only[seval,h1,aP]);refine aI ((te ?_));(try simp only[seval,h2,aP]);refine aI ((te ?_));(try simp only[seval,h3]);refine aD ?_;refine aN ?_;refine ai ?_;simp only[seval,aP,dP,g3];refine aD ?_;refine aN ?_;refine ai ?_;simp only[seval,aP,dP];refine cL ?_;refine sY x.seen.length (λi:Nat=>[(27,iv i)]) (λ_=>_) (λi=>True) trivial (λb_ dj i cV _ R hR=> ?_);refine ak ?_;refine aD ?_;refine⟨λh=> ?_,λh=> ?_⟩
 ·have bD:i<x.seen.length:=by omega
  obtain⟨y,hy⟩:=cD bD;have Df:=hx.seen y (Td hy);have bU:SE.wrap ((i:Int)+1)=((i+1:Nat):Int):=by have:=hx.vz;rw[bG _ (by omega)];rfl
  refine aN ?_;refine ai ?_;simp only[seval,acM hy,j8 bD];refine ai ?_;simp only[seval,aP];refine aI ((aiz (x:=x) (y:=y) Df.1 Df.2 ?_));(try simp only[seval]);refine ai ?_;simp only[seval,F.Dh];refine aD ?_;refine aN ?_;refine ai ?_;simp only[seval,bU];exact hR _ ⟨bD,trivial,A0 (qS rfl rfl) (by simp only[seval];simp[bw,Wk.refl]) b_ (by simp[fe])⟩
 ·refine cq ?_;refine ai ?_;simp only[seval,aP,aS,g4];refine aD ?_;refine aN ?_;refine ai ?_;simp only[seval,aP];refine aI ((Ql (x:=x) (l:=x.pieces) hx hx.piece hx.eN ?_));(try simp only[seval]);refine ai ?_;simp only[seval,F.Dh];refine aD ?_;refine aN ?_;refine ai ?_;simp only[seval,aP,g5];refine aD ?_;refine aN ?_;refine ai ?_;simp only[seval,aP];refine aI ((Ql (x:=x) (l:=x.aB) hx hx.stub (by have:=hx.dx;omega) ?_));(try simp only[seval]);refine aI ((aiA ?_));(try simp only[seval]);refine bf ?_;exact lX hH hk
end
def Ov (lv:Bool)(H:List aa)(f:AV)(b:Bool):Prop:=∀(L:List aa)(k kp:AV->List aa->Prop),k (bv b) (H++L)->jo lv SC f (H++L) [] k kp
def re:List AV:=[iv 0,iv 0,iv 0,.sl 0 [] .exact,.sl 0 [] .exact,.sl 0 [] .exact]
def fS (D:Kn):Int:=if D.has then 0 else 11
theorem mC{x:aj}{deep:Int}{p:Nat}{H:List aa}{k kp:AV->List aa->Prop}{f:AV}{b:Bool}(hx:x.Ok)(hp:x.am=p)(hm:H[0]?=some .main)(hf:Ov true H f b)(iP:b=false->k (.aM [.agg re,.agg jH,iv 3]) H)(cM:b=true->∀js D L mp,js.Perm (SZ (p+1))->oz x deep js D->bS D->H.length<=mp->(H++L)[mp]?=some (setH D.aK)->k (.aM [x.av,.agg (D.l mp),iv (fS D)]) (H++L)):bk true SC 51 H [x.av,iv deep,f] k kp:=by
 refine bL (rs:=[.cell 6 76,.cell 7 88,.tmp 8]) (nt:=36) Tryz.f51 λhH hA=> ?_;simp only[bt,SX,aj.av];have bT:x.l=[iv x.first,iv x.hours,iv x.am,dP x.seen,aS x.pieces,aS x.aB]:=rfl;have aP:∀(L:List aa),(H++L)[H.length]?=L[0]?:=λL=>aW H L 0;have cW:∀(L:List aa),(H++L)[H.length+1]?=L[1]?:=λL=>aW H L 1;have kV:∀(L:List aa),(H++L)[H.length+2]?=L[2]?:=λL=>aW H L 2;refine ak ?_;refine ai ?_;simp only[seval,aP,bT];refine aI ((Js (x:=x) hx ?_));(try simp only[seval]);refine ak ?_;refine aD ?_;refine aN ?_;refine ak ?_;refine xD (hf _ _ _ ?_);(try simp only[seval]);refine aD ?_;refine⟨λhb=> ?_,λhb=> ?_⟩
 ·have dL:b=false:=by simpa using hb
  have:=iP dL;refine ak ?_;refine nH ?_;simp only[seval,cW,kV];exact jN hH (Wk.refl _) (by simp[jV,tX,fe,re,jH,MG]) this
 ·have dL:b=true:=by simpa using hb
  refine aN ?_;refine ai ?_;simp only[seval,aP];refine⟨⟨rfl,rfl,rfl⟩,?_⟩;have Ae:∀(L:List aa),(H++L)[H.length+3]?=L[3]?:=λL=>aW H L 3;refine ai ?_;simp only[seval,Ae];refine aI ((aiw (x:=x) hx (D9 hx) hp (eI hm) λjs D L5 dM dW bF hl5=> ?_));have cg:=λmp=>Kn.len bF mp;have ek:=lg D;obtain⟨z0,z1,z2,z3,z4,rfl⟩:∃z0 z1 z2 z3 z4,L5=[z0,z1,z2,z3,z4]:=by
   match L5,hl5 with
   |[a,b,c,d,e],_=>exact⟨a,b,c,d,e,rfl⟩
  (try simp only[seval,cg]);refine⟨ek _,?_⟩;have bY:∀(L:List aa)(j:Nat),(H++L)[H.length+j]?=L[j]?:=λL j=>aW H L j;have kq:∀(L:List aa)(j:Nat)(y:aa),(H++L).set (H.length+j) y=H++L.set j y:=λL j y=>cY H L j y;have aj8:∀(L:List aa),(H++L)[H.length+10]?=L[10]?:=λL=>aW H L 10;obtain⟨mp,kJ⟩:∃mp,mp=H.length+4+5:=⟨_,rfl⟩;rw[<- kJ];refine ai ?_;simp only[seval,aj8,Kn.Cf];obtain⟨kj,fz⟩:∃kj:List AV->List AV->List aa,∀u v,kj u v=H++[.cells x.l 26,.cells u 76,.cells v 88,.cells x.l 76,z0,z1,z2,z3,z4,setH D.aK,.cells (D.l mp) 88]:=⟨_,λ_ _=>rfl⟩;have p1:∀u v,(kj u v)[H.length+1]?=some (.cells u 76):=λu v=>by rw[fz,bY];rfl
  have p2:∀u v,(kj u v)[H.length+2]?=some (.cells v 88):=λu v=>by rw[fz,bY];rfl
  have p3:∀u v,(kj u v)[H.length+3]?=some (.cells x.l 76):=λu v=>by rw[fz,bY];rfl
  have p10:∀u v,(kj u v)[H.length+10]?=some (.cells (D.l mp) 88):=λu v=>by rw[fz,bY];rfl
  have s1:∀u v w,(kj u v).set (H.length+1) (.cells w 76)=kj w v:=λu v w=>by rw[fz,kq,fz];rfl
  have s2:∀u v w,(kj u v).set (H.length+2) (.cells w 88)=kj u w:=λu v w=>by rw[fz,kq,fz];rfl
  have eB:∀(e:Int),e=fS D->k (.aM [x.av,.agg (D.l mp),iv e]) (kj x.l (D.l mp)):=λe he=>by
   rw[he,fz];refine cM dL js D _ mp dM dW bF (by omega) ?_;rw[kJ,show H.length+4+5=H.length+9 from rfl,bY];rfl
  have e0:=fz re jH;simp only[re,jH,bT,iv,bv,wv,TG,Ve,UK,push_cast,Int.cast_ofNat_Int]at e0;rw[<- e0];clear e0;have bz:x.l.length=6:=rfl;have mh:jH.length=28:=rfl;have hzr:re.length=6:=rfl;have ew:TU 6 x.l=x.l:=rfl;have Gk:TU 28 (D.l mp)=D.l mp:=SS (by rw[cg];exact SR _);have wn:∀l:List AV,l.length=28->D.l mp++T1 (D.l mp).length l=D.l mp:=λl hl=>by rw[cg,TW (by omega),SI]
  have aaw:∀a∈x.l,a.leaf=true:=λa ha=>by
   simp only[aj.l,SL,S0,or_false]at ha;rcases ha with rfl|rfl|rfl|rfl|rfl|rfl<;>rfl
  refine aD ?_;refine⟨λhh=> ?_,λhh=> ?_⟩
  ·have JX:D.has=false:=(by simpa using hh);have:=eB 11 (by rw[fS,JX];rfl);refine pu [2,3] [0,1,2,3,4] [⟨0,false,[],[]⟩,⟨1,false,[],[([2],[2])]⟩,⟨2,true,[2],[]⟩,⟨3,true,[2,3],[]⟩,⟨4,false,[2,3],[]⟩] (λD'=>bif isDone 3 D' then kj x.l (D.l mp)else bif isDone 2 D' then kj x.l jH else kj re jH) ?_;simp only[seval,p1,p2,p3,p10,s1,s2,cg,bz,mh,hzr,ek];rw[ew,Gk];refine⟨rfl,SR _,aaw,rfl,cg _,by rw[cg];exact SR _,ek _,by rw[wn _ rfl];rfl,?_⟩;refine nH ?_;simp only[seval,p1,p2,cg];rw[Gk];refine eC (a:=[x.av,.agg (D.l mp),iv 11]) rfl ?_;exact cr this
  ·have JX:D.has=true:=(by simpa using hh);have:=eB 0 (by rw[fS,JX];rfl);refine aN ?_;refine pu [2,3] [0,1,2,3,4] [⟨0,false,[],[]⟩,⟨1,false,[],[([2],[2])]⟩,⟨2,true,[2],[]⟩,⟨3,true,[2,3],[]⟩,⟨4,false,[2,3],[]⟩] (λD'=>bif isDone 3 D' then kj x.l (D.l mp)else bif isDone 2 D' then kj x.l jH else kj re jH) ?_;simp only[seval,p1,p2,p3,p10,s1,s2,cg,bz,mh,hzr,ek];rw[ew,Gk];refine⟨rfl,SR _,aaw,rfl,cg _,by rw[cg];exact SR _,ek _,by rw[wn _ rfl];rfl,?_⟩;refine nH ?_;simp only[seval,p1,p2,cg];rw[Gk];refine eC (a:=[x.av,.agg (D.l mp),iv 0]) rfl ?_;exact cr this
namespace Tk
def gg (s:Nat)(more:Int)(i:Nat):List Int:=((SZ i).filter s.testBit).map λn:Nat=>(n:Int)+more
theorem aaY(s:Nat)(more:Int)(i:Nat):gg s more (i+1)=if s.testBit i then gg s more i++[(i:Int)+more]else gg s more i:=by
 unfold gg;rw[Vk,List.filter_append,TN];by_cases h:s.testBit i=true
 ·simp[h]
 ·simp[h]
theorem MA(s:Nat)(more:Int)(i:Nat):(gg s more i).length<=i:=by
 unfold gg;rw[Tm];exact UL (List.length_filter_le _ _) (by simp)
end Tk
theorem z1:ie (SF .i64 0) 1=[iv 0]:=rfl
section
variable {lv:Bool}{H:List aa}{k kp:AV->List aa->Prop}
theorem Jr{s:Nat}{more:Int}(hs:s<65536)(hm:0<=more/\more<=1000)(hk:k (br (gg s more 16)) H):bk lv SC 56 H [wv s,iv more] k kp:=by
 refine bL (rs:=[.tmp 4]) (nt:=21) Tryz.f56 λhH hA=> ?_;simp only[bt,SX];refine ak ?_;refine ak ?_
 (repeat apply iY);refine vU (t:=5) (sz:=1) (el:=3) (by simp only[seval]<;>rfl) ?_
 refine ak ?_;refine cL ?_;refine iD 16 (λi:Nat=>[(5,.sl (gg s more i).length ((gg s more i).map iv) (.opn H.length)),(7,iv i)]) (λi=>H++[.tail (gg s more i).length 1 3]) (λ_=>True) (λ_ _=>rfl) (by simp only[seval];simp[bw,Wk.refl];exact Wk.refl _) rfl (λ_ _ _=>by simp) trivial (λb_ dj i cV hi R hR=> ?_);refine ak ?_;refine aD ?_;refine⟨λh=> ?_,λh=> ?_⟩
 ·have hl:i<16:=by omega
  have gv:SE.wrap ((i:Int)+1)=((i+1:Nat):Int):=by rw[bG _ (by omega)];rfl
  have uR:SE.wrap ((i:Int)+more)=(i:Int)+more:=bG _ (by omega);have iG:=MA s more i;refine aN ?_;refine ak ?_;refine ak ?_;refine aI ((xL hs ?_));(try simp only[seval]);refine aD ?_;refine⟨λhb=> ?_,λhb=> ?_⟩
  ·refine ai ?_;simp only[seval,z1,uR]
   first|refine⟨by decide,by omega,?_⟩|refine⟨by omega,?_⟩
   refine ai ?_;simp only[seval,gv];have dl:gg s more (i+1)=gg s more i++[(i:Int)+more]:=(by rw[aaY,if_pos hb]);refine hR _ ⟨hl,trivial,?_⟩;rw[dl,TN,SP];exact dn
  ·refine aN ?_;refine ai ?_;simp only[seval,gv];have dl:gg s more (i+1)=gg s more i:=(by rw[aaY,if_neg (by simpa using hb)]);refine hR _ ⟨hl,trivial,?_⟩;rw[dl];exact dn
 ·refine cq ?_;have:i=16:=by omega
  subst this;refine ak ?_;refine bf ?_;rw[br]at hk;exact jN hH (iz _ _ _) (by simp[vq,fe]) hk
theorem aiy{x:aj}{n:Int}{ir:Nat}(hx:x.Ok)(hr:H[ir]?=some (.cells x.l 26))(hk:k (bv (decide (n<0)||decide (n>(x.pieces.length:Int)-1))) H):bk lv SC 82 H [iv n,.op ir 0] k kp:=by
 refine bL (rs:=[.tmp 3]) (nt:=10) Tryz.f82 λhH hA=> ?_;simp only[bt,SX];have bT:x.l=[iv x.first,iv x.hours,iv x.am,dP x.seen,aS x.pieces,aS x.aB]:=rfl;have oV:=hx.eN;have hw:SE.wrap ((x.pieces.length:Int)-1)=(x.pieces.length:Int)-1:=bG _ (by omega);refine ak ?_;refine ai ?_;simp only[seval,hr,bT,aS,hw];refine aI ((te ?_));(try simp only[seval]);refine bf ?_;exact cr hk
theorem ahM{ns:List Int}{f:AV}{e:End}(iR:ns.length<=4)(g:Int->Bool)(hf:∀n∈ns,∀(k kp:AV->List aa->Prop),k (bv (g n)) H->jo lv SC f H [iv n] k kp)(hk:k (iv (match ns.findIdx? g with|some i=>(i:Int)|none=> -1)) H):bk lv SC 103 H [.sl ns.length (ns.map iv) e,f] k kp:=by
 refine bL (rs:=[.tmp 4]) (nt:=19) Tryz.f103 λhH hA=> ?_;simp only[bt,SX];refine ak ?_;refine ak ?_;refine cL ?_;refine sY ns.length (λi:Nat=>[(8,iv i)]) (λ_=>_) (λi=>∀n∈ns.take i,g n=false) (by simp) (λb_ dj i cV hi R hR=> ?_);refine ak ?_;refine aD ?_;refine⟨λh=> ?_,λh=> ?_⟩
 ·have bD:i<ns.length:=by omega
  obtain⟨n,hn⟩:=cD bD;have gv:SE.wrap ((i:Int)+1)=((i+1:Nat):Int):=by rw[bG _ (by omega)];rfl
  refine aN ?_;refine ak ?_;refine ai ?_;simp only[seval,ff hn,j8 bD];refine xD (hf n (Td hn) _ _ ?_);(try simp only[seval]);refine aD ?_;refine⟨λhg=> ?_,λhg=> ?_⟩
  ·refine ak ?_;refine bf ?_;have:ns.findIdx? g=some i:=by
    rw[Xr];refine⟨bD,?_,λj hj=> ?_⟩
    ·rw[SO bD]at hn;cases hn;exact hg
    ·have:=hi ns[j] (by rw[List.mem_take_iff_getElem];exact⟨j,by omega,rfl⟩);simp[this]
   rw[this]at hk;exact cr hk
  ·refine aN ?_;refine ai ?_;simp only[seval,gv];refine hR _ ⟨bD,λm hm=> ?_,dn⟩;rw[VJ,hn]at hm;rcases SV.1 hm with h'|h'
   ·exact hi m h'
   ·simp at h';rw[h'];simpa using hg
 ·have:i=ns.length:=by omega
  subst this;rw[TQ]at hi;refine cq ?_;refine ak ?_;refine bf ?_;have:ns.findIdx? g=none:=by rw[Ya];exactλn hn=>hi n hn
  rw[this]at hk;exact cr hk
theorem aix{ns:List Int}{f:AV}{e:End}(iR:ns.length<=4)(g:Int->Bool)(hf:∀n∈ns,∀(k kp:AV->List aa->Prop),k (bv (g n)) H->jo lv SC f H [iv n] k kp)(hk:k (bv (ns.any g)) H):bk lv SC 81 H [.sl ns.length (ns.map iv) e,f] k kp:=by
 refine bL (rs:=[.tmp 4]) (nt:=9) Tryz.f81 λhH hA=> ?_;simp only[bt,SX];refine ak ?_;refine ak ?_;refine aI ((ahM iR g hf ?_));(try simp only[seval]);refine bf ?_;refine cr ?_;have:decide ((match ns.findIdx? g with|some i=>(i:Int)|none=> -1)>=0)=ns.any g:=by
  cases h:ns.findIdx? g with
  |none=>
   rw[Ya]at h;have:ns.any g=false:=by
    rw[List.any_eq_false];exactλn hn=>by simp[h n hn]
   rw[this];rfl
  |some i=>
   rw[Xr]at h;obtain⟨h1,h2,_⟩:=h;have:ns.any g=true:=UI.2 ⟨ns[i],Wy h1,h2⟩;rw[this];simp
 rw[this];exact hk
def mS (x:aj)(ns:List Int):Bool:= !(ns.any λn=>decide (n<0)||decide (n>(x.pieces.length:Int)-1))
theorem oI{x:aj}{ns:List Int}{e:End}{il ir:Nat}(hx:x.Ok)(iR:ns.length<=4)(hl:H[il]?=some (.cells [.sl ns.length (ns.map iv) e] 22))(hr:H[ir]?=some (.cells x.l 26))(hk:k (bv (mS x ns)) H):bk lv SC 80 H [.op il 0,.op ir 0] k kp:=by
 refine bL (rs:=[.tmp 2]) (nt:=7) Tryz.f80 λhH hA=> ?_;simp only[bt,SX];refine ak ?_;refine ai ?_;simp only[seval,hl,T_,UC,Uj,TP];refine aI ((aix (ns:=ns) iR (λn=>decide (n<0)||decide (n>(x.pieces.length:Int)-1)) (λn hn k kp hk=> ?_) ?_))
 ·exact bX (aiy hx hr hk)
 (try simp only[seval]);refine bf ?_;exact cr hk
theorem oH{x:aj}{ns:List Int}{e:End}(hk:k (.fn (.func 80) [] [.op (H.length+1) 0,.op H.length 0]) (H++[.cells x.l 26,.cells [.sl ns.length (ns.map iv) e] 22])):bk lv SC 58 H [x.av,.sl ns.length (ns.map iv) e] k kp:=by
 refine bL (rs:=[.tmp 4]) (nt:=6) Tryz.f58 λhH hA=> ?_;simp only[bt,SX,aj.av];refine ak ?_;refine ai ?_;simp only[seval,T_,UC,Uj,TP];refine bf ?_;exact cr hk
end
open Go.Conc Go.Proofs Go.Gg.Tk
structure a_ where
 aA:List Int
 g:Int
 s:Int
def vE (τ:a_):aa:=.cells [br τ.aA,.val (.int .i64 τ.g),.val (.int .u64 τ.s)] 73
def H5 (a b:Int):Int:=Tx.wrap (Ui Tx.bits a^^^Ui Tx.bits b).toNat
def adM (g:Int):Int:=Tx.wrap (Tx.wrap (Tx.wrap g* 15074714826142052245)+11400714819323198485)
def Ob (τ:a_):Int:=match τ.aA[τ.g.toNat]?with
 |some x=>H5 (adM τ.g) (Tx.wrap (Tx.wrap x* 12620523164723586485))
 |none=>adM τ.g
def anm (s w:Int):Int:=Tx.wrap (Tx.wrap (s+w)* 13787848793156543929)
def ann (s:Int):Int:=H5 s (s.fdiv (2^min 31 Tx.bits))
def Hc (s:Int):Int:=(H5 s (s.fdiv (2^min 27 Tx.bits))).fdiv (2^min 9 Tx.bits)
def tick (τ:a_):a_:=⟨τ.aA,τ.g+1,ann (anm τ.s (Ob τ))⟩
def wW (τ:a_):Int:=Hc (Tx.wrap ((tick τ).s* 10723151780598845931))
theorem adD(n:Int)(h0:0<=n)(h:n<2^64):Tx.wrap n=n:=by
 have h1:Tx.bits=64:=rfl;have h2:Tx.signed=false:=rfl;unfold W9;rw[h1,h2];simp;omega
theorem arX(n:Int):0<=Tx.wrap n/\Tx.wrap n<2^64:=by
 have h1:Tx.bits=64:=rfl;have h2:Tx.signed=false:=rfl;unfold W9;rw[h1,h2];simp;omega
theorem abL(s:Int):0<=Hc s/\Hc s<2^55:=by
 unfold Hc H5;have h:=arX (Ui Tx.bits s^^^Ui Tx.bits (s.fdiv (2^min 27 Tx.bits))).toNat;have e:(2:Int)^min 9 Tx.bits=512:=by decide
 rw[e,Int.fdiv_eq_ediv_of_nonneg _ (show (0:Int)<=512 by decide)];omega
def dp (τ:a_)(n:Int):Int:=if n<1 then 0 else(wW τ).tmod (n+1)
theorem lS(τ:a_)(n:Int):0<=dp τ n/\(dp τ n<=n\/dp τ n=0):=by
 unfold dp;split
 ·omega
 ·have h:=(abL (Tx.wrap ((tick τ).s* 10723151780598845931))).1;have h1:=Int.tmod_nonneg (n+1) h;have h2:=Int.tmod_lt_of_pos (wW τ) (show 0<n+1 by omega);unfold wW at h2⊢;omega
def Bb (τ:a_)(lo hi:Int):Int:=lo+dp τ (hi-lo)
theorem adJ(τ:a_){lo hi:Int}(h:lo<=hi):lo<=Bb τ lo hi/\Bb τ lo hi<=hi:=by
 have:=lS τ (hi-lo);unfold Bb;omega
def apr (τ:a_)(n:Int):Bool:=dp τ (n-1)==0
structure dK (Gf:a_->List aa)(t N:Nat):Prop where
 len:∀τ,(Gf τ).length=N
 get:∀τ,(Gf τ)[t]?=some (vE τ)
 set:∀τ τ',(Gf τ).set t (vE τ')=Gf τ'
 ok:∀m τ τ',(∀z∈Gf τ,fh m z)->∀z∈Gf τ',fh m z
theorem dK.more{Gf:a_->List aa}{t N:Nat}(h:dK Gf t N)(L:List aa):dK (λτ=>Gf τ++L) t (N+L.length)where
 len:=λτ=>by simp[h.len]
 get:=λτ=>eI (h.get τ)
 set:=λτ τ'=>by show (Gf τ++L).set t _=_;rw[U2 _ _ (e_ (h.get τ)),h.set]
 ok:=λm τ τ' hk z hz=>(SV.1 hz).elim (λhz=>h.ok m τ τ' (λv hv=>hk v (Tf _ hv)) z hz) (λhz=>hk z (S4 _ hz))
theorem dK.au{Gf:a_->List aa}{t N:Nat}(h:dK Gf t N){τ:a_}(hH:bM (Gf τ))(τ':a_):bM (Gf τ'):=λz hz=>by
 have:=h.ok N τ τ' (λw hw=>by have:=hH w hw;rwa [h.len]at this) z hz;rwa [h.len]
section
variable {Gf:a_->List aa}{t N:Nat}(h:dK Gf t N)
include h
theorem dK.g0(τ:a_)(L:List aa):(Gf τ++L)[N]?=L[0]?:=by have:=vQ (Gf τ) L 0;rwa [h.len]at this
theorem dK.g1(τ:a_)(L:List aa):(Gf τ++L)[N+1]?=L[1]?:=by have:=vQ (Gf τ) L 1;rwa [h.len]at this
theorem dK.g2(τ:a_)(L:List aa):(Gf τ++L)[N+1+1]?=L[2]?:=by have:=vQ (Gf τ) L 2;rwa [h.len]at this
theorem dK.g3(τ:a_)(L:List aa):(Gf τ++L)[N+1+1+1]?=L[3]?:=by have:=vQ (Gf τ) L 3;rwa [h.len]at this
theorem dK.h2(τ:a_)(L:List aa):(Gf τ++L)[N+2]?=L[2]?:=h.g2 τ L
theorem dK.h3(τ:a_)(L:List aa):(Gf τ++L)[N+3]?=L[3]?:=h.g3 τ L
theorem dK.s0(τ:a_)(L:List aa)(x:aa):(Gf τ++L).set N x=Gf τ++L.set 0 x:=by have:=vR (Gf τ) L 0 x;rwa [h.len]at this
theorem dK.s1(τ:a_)(L:List aa)(x:aa):(Gf τ++L).set (N+1) x=Gf τ++L.set 1 x:=by have:=vR (Gf τ) L 1 x;rwa [h.len]at this
theorem dK.s2(τ:a_)(L:List aa)(x:aa):(Gf τ++L).set (N+1+1) x=Gf τ++L.set 2 x:=by have:=vR (Gf τ) L 2 x;rwa [h.len]at this
theorem dK.s3(τ:a_)(L:List aa)(x:aa):(Gf τ++L).set (N+1+1+1) x=Gf τ++L.set 3 x:=by have:=vR (Gf τ) L 3 x;rwa [h.len]at this
theorem dK.t2(τ:a_)(L:List aa)(x:aa):(Gf τ++L).set (N+2) x=Gf τ++L.set 2 x:=h.s2 τ L x
theorem dK.t3(τ:a_)(L:List aa)(x:aa):(Gf τ++L).set (N+3) x=Gf τ++L.set 3 x:=h.s3 τ L x
end
theorem anV(m:Nat)(τ:a_):fh m (vE τ):=by
 intro a ha;simp only[SL,S0,or_false]at ha;rcases ha with rfl|rfl|rfl
 ·rw[yI];trivial
 ·exact .val _
 ·exact .val _
theorem arG(H:List aa):dK (λτ=>H++[vE τ]) H.length (H.length+1)where
 len:=λτ=>by simp
 get:=λτ=>by simp
 set:=λτ τ'=>by simp
 ok:=λm τ τ' hk z hz=>by
  rcases SV.1 hz with hz|hz
  ·exact hk z (Tf _ hz)
  ·rw[S9.1 hz];exact anV _ _
structure a_.Ok (τ:a_)(b:Int):Prop where
 g0:0<=τ.g
 g:τ.g<=b
 len:τ.aA.length<=2^50
section
variable {lv:Bool}{H:List aa}{k kp:AV->List aa->Prop}{Gf:a_->List aa}{t N:Nat}{τ:a_}{b:Int}
theorem ah3{aA:List Int}(hk:k (.op H.length 0) (H++[vE ⟨aA,0,7640891576956012809⟩])):bk lv SC 16 H [br aA] k kp:=by
 refine bL (rs:=[.tmp 2]) (nt:=6) Tryz.f16 λhH hA=> ?_;simp only[bt,SX];refine ak ?_;refine ak ?_;refine bf ?_;exact cr hk
theorem a_.Ok.tick(h:τ.Ok b):(tick τ).Ok (b+1):=⟨by have:=h.g0;show 0<=τ.g+1;omega,by have:=h.g;show τ.g+1<=b+1;omega,h.len⟩
theorem a_.Ok.mono{b':Int}(h:τ.Ok b)(hb:b<=b'):τ.Ok b':=⟨h.g0,by have:=h.g;omega,h.len⟩
theorem aio(hT:dK Gf t N)(hτ:τ.Ok b)(hb:b<2^60)(hk:k (.val (.int .u64 (wW τ))) (Gf (tick τ))):bk lv SC 55 (Gf τ) [.op t 0] k kp:=by
 obtain⟨aA,g,s⟩:=τ;obtain⟨kW,hgb,Sd⟩:=hτ;simp only at kW hgb Sd;refine bL (rs:=[.tmp 2]) (nt:=76) Tryz.f55 λhH hA=> ?_;simp only[bt,SX];have hg:∀τ,(Gf τ)[t]?=some (.cells [.sl τ.aA.length (τ.aA.map iv) .shut,.val (.int .i64 τ.g),.val (.int .u64 τ.s)] 73):=hT.get;have hs:∀τ (DE:List Int) g' s',(Gf τ).set t (.cells [.sl DE.length (DE.map iv) .shut,.val (.int .i64 g'),.val (.int .u64 s')] 73)=Gf ⟨DE,g',s'⟩:=λτ DE g' s'=>hT.set τ ⟨DE,g',s'⟩;obtain⟨n,rfl⟩:∃n:Nat,g=n:=⟨g.toNat,by omega⟩;have hw:SE.wrap ((n:Int)+1)=n+1:=bG _ (by omega);refine ak ?_;refine ai ?_;simp only[seval,hg];refine eU 9 ?_;simp only[seval,hg];refine aD ?_;refine⟨λh=> ?_,λh=> ?_⟩
 ·have iQ:n<aA.length:=by simpa using h
  obtain⟨x,hx⟩:=cD iQ;refine eU 13 ?_;simp only[seval,hg,ff hx,j8 iQ,BN];refine ai ?_;simp only[seval,hg,hw,hs];refine ai ?_;simp only[seval,hg,hs];refine eU 11 ?_;simp only[seval,hg,hs,BM,BN];refine ai ?_;simp only[seval,hg];refine ai ?_;simp only[seval,BM,BN];refine bf ?_;refine cr ?_;unfold wW tick Ob at hk;simp only[VQ,hx]at hk;exact hk
 ·have iQ:¬n<aA.length:=by simpa using h
  have hx:aA[n]?=none:=by rw[Uu];omega
  refine aN ?_;refine ai ?_;simp only[seval,hg,hw,hs];refine ai ?_;simp only[seval,hg,hs];refine eU 11 ?_;simp only[seval,hg,hs,BM,BN];refine ai ?_;simp only[seval,hg];refine ai ?_;simp only[seval,BM,BN];refine bf ?_;refine cr ?_;unfold wW tick Ob at hk;simp only[VQ,hx]at hk;exact hk
theorem pz{n:Int}(hT:dK Gf t N)(hτ:τ.Ok b)(hb:b<2^60)(hn:n<2^60)(hk:k (iv (dp τ n)) (Gf (tick τ))):bk lv SC 25 (Gf τ) [.op t 0,iv n] k kp:=by
 refine bL (rs:=[.tmp 4]) (nt:=16) Tryz.f25 λhH hA=> ?_;simp only[bt,SX];refine ak ?_;refine ak ?_;refine aI ((aio hT hτ hb ?_));(try simp only[seval]);refine ak ?_;refine aD ?_;refine⟨λh=> ?_,λh=> ?_⟩
 ·have h:n<1:=by simpa using h
  refine ak ?_;refine bf ?_;rw[dp,if_pos h]at hk;exact cr hk
 ·have h:¬n<1:=by simpa using h
  have ho:=abL (Tx.wrap ((tick τ).s* 10723151780598845931));have bU:Tx.wrap n=n:=adD n (by omega) (by omega);have f_:Tx.wrap (n+1)=n+1:=adD _ (by omega) (by omega);have oU:n+1≠0:=by omega
  have hr:=lS τ n;rw[dp,if_neg h]at hk hr;have wI:SE.wrap ((wW τ).tmod (n+1))=(wW τ).tmod (n+1):=bG _ (by omega);refine aN ?_;refine ai ?_;simp only[seval,aeN,bU,f_,wI,oU];refine bf ?_;exact cr hk
theorem Qh{lo hi:Int}(hT:dK Gf t N)(hτ:τ.Ok b)(hb:b<2^60)(pL:0<=lo/\lo<2^20)(FS: -1<=hi/\hi<2^20)(hk:k (iv (Bb τ lo hi)) (Gf (tick τ))):bk lv SC 23 (Gf τ) [.op t 0,iv lo,iv hi] k kp:=by
 refine bL (rs:=[.tmp 6]) (nt:=14) Tryz.f23 λhH hA=> ?_;simp only[bt,SX];have bU:SE.wrap (hi-lo)=hi-lo:=bG _ (by omega);have hr:=lS τ (hi-lo);have f_:SE.wrap (lo+dp τ (hi-lo))=lo+dp τ (hi-lo):=bG _ (by omega);refine ak ?_;refine ai ?_;simp only[seval,bU];refine aI ((pz hT hτ hb (by omega) ?_));(try simp only[seval,f_]);refine bf ?_;exact cr hk
theorem Fb{n:Int}(hT:dK Gf t N)(hτ:τ.Ok b)(hb:b<2^60)(hn:0<=n/\n<2^20)(hk:k (bv (apr τ n)) (Gf (tick τ))):bk lv SC 46 (Gf τ) [.op t 0,iv n] k kp:=by
 refine bL (rs:=[.tmp 4]) (nt:=10) Tryz.f46 λhH hA=> ?_;simp only[bt,SX];have bU:SE.wrap (n-1)=n-1:=bG _ (by omega);refine ak ?_;refine ai ?_;simp only[seval,bU];refine aI ((pz hT hτ hb (by omega) ?_));(try simp only[seval]);refine bf ?_;exact cr hk
end
theorem wR{α:Type}{xs:List α}{i:Nat}{x:α}(h:xs[i]?=some x):x∈xs:=Td h
section
variable {lv:Bool}{H:List aa}{k kp:AV->List aa->Prop}
inductive sV:List AV->List AV->Prop
 |nil:sV [] []
 |cons {a b:AV} {l m:List AV} (h:Wk a b) (t:sV l m):sV (a::l) (b::m)
theorem sV.len{l m:List AV}(h:sV l m):l.length=m.length:=by
 induction h with
 |nil=>rfl
 |cons _ _ ih=>simp[ih]
theorem sV.at{l m:List AV}(h:sV l m):∀(i:Nat)(a b:AV),m[i]?=some a->l[i]?=some b->Wk b a:=by
 induction h with
 |nil=>intro i a b h;simp at h
 |cons h _ ih=>
  intro i a b h1 h2
  match i with
  |0=>cases h1;cases h2;exact h
  |i+1=>exact ih i a b h1 h2
theorem Ee{l l':List AV}(h:sV l l'):Wk (.agg l) (.agg l'):=λE v hd=>by
 cases hd with
 |agg hs h1=>
  refine .agg (by rw[hs,h.len]) λi x hx=> ?_;obtain⟨y,hy⟩:=cD (xs:=l) (i:=i) (by rw[h.len];exact e_ hx);exact h.at i x y hx hy E _ (h1 i y hy)
theorem Oa{n:Nat}{l l':List AV}{e:End}(hl:l.length=l'.length)(h:∀(i:Nat) a b,l'[i]?=some a->l[i]?=some b->Wk b a):Wk (.sl n l e) (.sl n l' e):=λE v hd=>by
 cases hd with
 |sl b o cap f hc he h1 h2=>
  refine .sl b o cap f hc he (λi hi=>h1 i (by omega)) λi x hx=> ?_;obtain⟨y,hy⟩:=cD (xs:=l) (i:=i) (by have:=e_ hx;omega);exact h i x y hx hy E _ (h2 i y hy)
 |nil he=>
  have:l'=[]:=VC hl.symm;subst this;exact .nil he
theorem M4:(1<=2^24)=True:=by simp
theorem Ld{H L:List aa}(h:bM H)(hL:∀z∈L,∀n,fh n z):bM (H++L):=λz hz=>by
 rcases SV.1 hz with h'|h'
 ·exact(h z h').mono (by simp)
 ·exact hL z h' _
theorem NB{base Vi Vn T:List (Nat×AV)}{H H':List aa}(G:List aa)(hk:sQ T (Vi++base) Vn)(hv:∀p∈Vn,∃b,look T p.1=some b/\Wk b p.2)(au:bM H)(hlt:∀p∈Vn,Lt H.length p.2)(hG:H'=H++G):ru base Vi Vn H ⟨T,H'⟩:=⟨hk,hv,G,hG,.inr ⟨au,hlt⟩⟩
theorem arq{xs ys:List Int}{i:Nat}{x y:Int}(hx:xs[i]?=some x)(hy:ys[i]?=some y)(h:xs.take i=ys.take i)(e:x=y):xs.take (i+1)=ys.take (i+1):=by
 obtain⟨hj,rfl⟩:=SM.1 hx;obtain⟨hk,rfl⟩:=SM.1 hy;rw[XF hj,XF hk,h,e]
theorem zO{xs ys:List Int}{e e':End}(hx:xs.length<2^60)(hk:k (bv (decide (xs=ys))) H):bk lv SC 20 H [.sl xs.length (xs.map iv) e,.sl ys.length (ys.map iv) e'] k kp:=by
 refine bL (rs:=[.tmp 4]) (nt:=26) Tryz.f20 λhH hA=> ?_;simp only[bt,SX];refine ak ?_;refine ak ?_;refine aD ?_;refine⟨λh=> ?_,λh=> ?_⟩
 ·have h:xs≠ys:=λe=>by subst e;simp at h
  refine ak ?_;refine bf ?_;rw[decide_eq_false h]at hk;exact cr hk
 ·have h:xs.length=ys.length:=by
   have h:(xs.length:Int)=ys.length:=(by simpa using h);omega
  refine aN ?_;refine ak ?_;refine cL ?_;refine sY xs.length (λi:Nat=>[(5,iv i)]) (λ_=>_) (λi=>xs.take i=ys.take i) (by simp) (λb_ dj i cV hi R hR=> ?_);refine ak ?_;refine aD ?_;refine⟨λh2=> ?_,λh2=> ?_⟩
  ·have hlt:i<xs.length:=(by omega);obtain⟨x,Dc⟩:=cD hlt;obtain⟨y,gC⟩:=cD (xs:=ys) (i:=i) (by omega);refine aN ?_;refine cL ?_;refine eU 8 ?_;simp only[seval,ff Dc,ff gC,j8 hlt,j8 (e_ gC)];refine aD ?_;refine⟨λh3=> ?_,λh3=> ?_⟩
   ·have h3:xs≠ys:=λe=>(by subst e;rw[Dc]at gC;cases gC;simp at h3);refine ak ?_;refine bf ?_;rw[decide_eq_false h3]at hk;exact cr hk
   ·have h3:x=y:=(by simpa using h3);refine aN ?_;refine ak ?_;refine hR _ ⟨hlt,arq Dc gC hi h3,?_⟩;rw[bG _ (by omega)];exact dn
  ·have tH:i=xs.length:=(by omega);refine cq ?_;refine ak ?_;refine bf ?_;have h3:xs=ys:=by
    rw[tH,TQ]at hi;rw[hi,h,TQ]
   rw[decide_eq_true h3]at hk;exact cr hk
end
def ez (x:aj)(deep:Int)(D:Kn):Prop:=∃(p:Nat)(js:List Nat),x.am=p/\js.Perm (SZ (p+1))/\oz x deep js D/\bS D
theorem kM(x:aj):∀a∈x.l,a.leaf=true:=λa ha=>by
 simp only[aj.l,SL,S0,or_false]at ha;rcases ha with rfl|rfl|rfl|rfl|rfl|rfl<;>rfl
section
variable {H:List aa}{k kp:AV->List aa->Prop}
theorem Ix{lv:Bool}:Ov lv H (.fn (.func 52) [] []) true:=λL k kp hk=>bX (ail hk)
theorem ah7{x:aj}(hx:x.Ok)(hm:H[0]?=some .main)(hk:∀D,ez x 0 D->k (.aM [iv (if D.has then(D.aK.length:Int)else 0),iv 0]) H):bk true SC 21 H [x.av] k kp:=by
 refine bL (rs:=[.tmp 2,.tmp 3]) (nt:=19) Tryz.f21 λhH hA=> ?_;simp only[bt,SX,aj.av];have hp:=hx.am;obtain⟨p,dQ⟩:∃p:Nat,x.am=p:=⟨x.am.toNat,by omega⟩;have bT:x.l=[iv x.first,iv x.hours,iv x.am,dP x.seen,aS x.pieces,aS x.aB]:=rfl;have aP:∀(L:List aa),(H++L)[H.length]?=L[0]?:=λL=>aW H L 0;have bz:x.l.length=6:=rfl;have ew:TU 6 x.l=x.l:=rfl;refine ak ?_;refine ai ?_;simp only[seval,aP,bz,ew];refine aI ((mC (x:=x) hx dQ (eI hm) Ix (λh=>by cases h) λ_ js D L mp dM dW bF kJ hg=> ?_));have fb:ez x 0 D:=⟨p,js,dQ,dM,dW,bF⟩;have cg:=Kn.len bF mp;have ek:=lg D mp;obtain⟨B,hB⟩:∃B,B=H++[aa.cells x.l 26]++L:=⟨_,rfl⟩;rw[<- hB]at hg⊢;(try simp only[seval,aj.av,bz,cg]);refine⟨kM x,ek,?_⟩;have fY:∀(L':List aa)(n:Int),k (.aM [iv n,iv 0]) H->cK H.length (B++L') (.aM [iv n,iv 0]) k:=λL' n h=>by
  rw[hB,SA,SA];exact jN hH (Wk.refl _) (by simp[jV,fe]) h
 have nd:∀(L':List aa),(B++L')[B.length+1]?=L'[1]?:=λL'=>aW B L' 1;have ww:∀(L':List aa),(B++L')[mp]?=some (.obj (.map (D.aK.zipIdx.map eO).toArray D.aK.length)):=λL'=>eI hg;have cW:(D.l mp).drop 1=.mp mp::((D.l mp).drop 2):=rfl;have aJ:=hk D fb;cases hh:D.has with
 |false=>
  have hE:fS D=11:=by rw[fS,hh];rfl
  rw[hh]at aJ;refine ai ?_;simp only[seval,hE,show ((11:Int)==11)=true from rfl];refine aD ?_;refine ak ?_;refine bf ?_;exact fY _ 0 aJ
 |true=>
  have hE:fS D=0:=by rw[fS,hh];rfl
  rw[hh]at aJ;refine ai ?_;simp only[seval,hE,show ((0:Int)==11)=false from rfl];refine aD ?_;refine aN ?_;refine ai ?_;simp only[seval,nd,cW,ww];have aY:(D.aK.zipIdx.map eO).toArray.size=D.aK.length:=by simp
  rw[ael _ _ _ _ _ F.Oy (ww _),aY];refine bf ?_;exact fY _ _ aJ
end
namespace Tk
def vM (some other:Bool):Int:=if some&&other then 3 else if some then 1 else 2
end Tk
open Go.Conc Go.Proofs Go.Gg.Tk
section
variable {lv:Bool}{H:List aa}{k kp:AV->List aa->Prop}
theorem aiq{D:Kn}{mp s q:Nat}(hD:bS D)(hs:s<3)(hq:q<4)(hk:k (iv (vM ((D.aX.getD s 0).testBit q) (D.aX.getD s 0!=2^q))) H):bk lv SC 60 H [.agg (D.l mp),.dh 97 (.agg [iv s,iv q])] k kp:=by
 refine bL (rs:=[.tmp 4]) (nt:=65) Tryz.f60 λhH hA=> ?_;simp only[bt,SX];have cg:=Kn.len hD mp;obtain⟨u,hu⟩:=cD (xs:=D.aX) (i:=s) (by rw[hD.aX];exact hs);have ku:D.aX.getD s 0=u:=by rw[SD,hu];rfl
 rw[ku]at hk;have lu:=hD.ml _ (Td hu);have b3:(0<=(s:Int)/\(s:Int)<3)=True:=by simp;omega
 have aP:∀(L:List aa),(H++L)[H.length]?=L[0]?:=λL=>aW H L 0;have cW:∀(L:List aa),(H++L)[H.length+1]?=L[1]?:=λL=>aW H L 1;have CF:=Kn.DM hD (mp:=mp) hu;refine ak ?_;refine ak ?_;refine ak ?_;refine ai ?_;simp only[seval,F.alQ];refine aD ?_;refine ai ?_;simp only[seval,F.aaB];refine aD ?_;refine ak ?_;refine eU 18 ?_;simp only[seval,aP,cW,b3,CF];refine iU (bv (u.testBit q)) (bX (xL lu ⟨rfl,rfl⟩)) ?_;refine iU (wv (2^q)) (bX (uD (m:=0) (by decide) (show q<16 by omega) ⟨by rw[Nat.zero_or],rfl⟩)) ?_;have aG:((u:Int)!=((2^q:Nat):Int))=(u !=2^q):=by
  rw[Vo,bne_iff_ne,bne_iff_ne];exact not_congr Int.ofNat_inj
 rw[show wv u=AV.val (.int .u16 (u:Int))from rfl,show wv (2^q)=AV.val (.int .u16 ((2^q:Nat):Int))from rfl,OI,aG];have fin:∀(L:List aa)(n:Int),vM (u.testBit q) (u !=2^q)=n->cK H.length (H++L) (iv n) k:=λL n h=>by rw[h]at hk;exact lX hH hk
 generalize u.testBit q=s1 at fin⊢;generalize(u !=2^q)=s2 at fin⊢;cases s1<;>cases s2
 all_goals
  refine ak ?_;refine cL ?_;refine cL ?_;refine cL ?_;refine ak ?_;refine aD ?_
 ·refine aN ?_;refine ak ?_;refine aD ?_;refine cq ?_;refine ak ?_;refine ak ?_;refine cq ?_;refine ak ?_;refine bf ?_;exact fin _ 2 rfl
 ·refine aN ?_;refine ak ?_;refine aD ?_;refine cq ?_;refine ak ?_;refine ak ?_;refine cq ?_;refine ak ?_;refine bf ?_;exact fin _ 2 rfl
 ·refine aN ?_;refine ak ?_;refine aD ?_;refine aN ?_;refine cq ?_;refine ak ?_;refine cq ?_;refine ak ?_;refine bf ?_;exact fin _ 1 rfl
 ·refine cq ?_;refine ak ?_;refine ak ?_;refine ak ?_;refine cq ?_;refine ak ?_;refine bf ?_;exact fin _ 3 rfl
theorem aov{x:aj}{q:Nat}(hq:q<x.pieces.length):mS x [(q:Int)]=true:=by
 unfold mS;simp;omega
theorem aip{x:aj}{s q ir ip is:Nat}(hx:x.Ok)(hs:s<x.aB.length)(hq:q<x.pieces.length)(hr:H[ir]?=some (.cells x.l 26))(h1:H[ip]?=some (.cells [iv q] 3))(h2:H[is]?=some (.cells [iv s] 3))(hk:k (bv true) H):bk lv SC 57 H [.op ir 0,.op ip 0,.op is 0] k kp:=by
 refine bL (rs:=[.tmp 3]) (nt:=18) Tryz.f57 λhH hA=> ?_;simp only[bt,SX];have bT:x.l=[iv x.first,iv x.hours,iv x.am,dP x.seen,aS x.pieces,aS x.aB]:=rfl;have bz:x.l.length=6:=rfl;have ew:TU 6 x.l=x.l:=rfl;have aR:=hx.dx;have aP:∀(L:List aa),(H++L)[H.length]?=L[0]?:=λL=>aW H L 0;have cW:∀(L:List aa),(H++L)[H.length+1]?=L[1]?:=λL=>aW H L 1;have au:=aov hq;have hw:SE.wrap ((x.aB.length:Int)-1)=(x.aB.length:Int)-1:=bG _ (by omega);have cV:(decide ((s:Int)<0)||decide ((s:Int)>(x.aB.length:Int)-1))=false:=by simp;omega
 refine ak ?_;refine ai ?_;simp only[seval,z1,hr,h1,bz,ew];(try refine⟨by decide,?_⟩);refine aI ((oH (x:=x) (ns:=[(q:Int)]) (e:=.exact) ?_));(try simp only[seval]);refine aI ((oI (x:=x) (ns:=[(q:Int)]) (e:=.exact) hx (by simp) (by rw[cW];rfl) (by rw[aP];rfl) ?_));(try simp only[seval,au,eI hr,eI h2,bT,aS,hw]);refine aI ((te ?_));(try simp only[seval,cV]);refine bf ?_;exact lX hH hk
theorem aid{x:aj}{s q:Nat}(hx:x.Ok)(hs:s<x.aB.length)(hq:q<x.pieces.length)(hm:H[0]?=some .main)(hk:∀D,ez x 2 D->k (.aM [iv (if D.has then vM ((D.aX.getD s 0).testBit q) (D.aX.getD s 0!=2^q)else 0),iv (fS D)]) H):bk true SC 28 H [x.av,iv s,iv q] k kp:=by
 refine bL (rs:=[.tmp 6,.tmp 7]) (nt:=27) Tryz.f28 λhH hA=> ?_;simp only[bt,SX,aj.av];have hp:=hx.am;obtain⟨p,dQ⟩:∃p:Nat,x.am=p:=⟨x.am.toNat,by omega⟩;have aP:∀(L:List aa),(H++L)[H.length]?=L[0]?:=λL=>aW H L 0;have cW:∀(L:List aa),(H++L)[H.length+1]?=L[1]?:=λL=>aW H L 1;have kV:∀(L:List aa),(H++L)[H.length+2]?=L[2]?:=λL=>aW H L 2;have bz:x.l.length=6:=rfl;have ew:TU 6 x.l=x.l:=rfl;refine ak ?_;refine ai ?_;simp only[seval,aP,bz,ew,T_,UC,Uj,TP];refine aI ((mC (x:=x) (b:=true) hx dQ (eI hm) (λL k kp hk=>bX (aip hx hs hq (by rw[SA,aP];rfl) (by rw[SA,kV];rfl) (by rw[SA,cW];rfl) hk)) (λh=>by cases h) λ_ js D L mp dM dW bF kJ hg=> ?_));have fb:ez x 2 D:=⟨p,js,dQ,dM,dW,bF⟩;have cg:=Kn.len bF mp;have ek:=lg D mp;obtain⟨Y,hY⟩:∃Y:List aa,Y=[aa.cells x.l 26,.cells [iv s] 3,.cells [iv q] 3]++L:=⟨_,rfl⟩;obtain⟨B,hB⟩:∃B,B=H++Y:=⟨_,rfl⟩;have dT:H++[aa.cells x.l 26,.cells [iv s] 3,.cells [iv q] 3]++L=B:=by rw[hB,hY,SA]
 have nd:∀(L':List aa),(B++L')[B.length+1]?=L'[1]?:=λL'=>aW B L' 1;have hbs:∀(L':List aa),(B++L')[H.length+1]?=some (.cells [iv s] 3):=λL'=>by rw[hB,hY,SA,cW];rfl
 have Cy:∀(L':List aa),(B++L')[H.length+2]?=some (.cells [iv q] 3):=λL'=>by rw[hB,hY,SA,kV];rfl
 have aJ:=hk D fb;have fY:∀(L':List aa)(n m:Int),k (.aM [iv n,iv m]) H->cK H.length (B++L') (.aM [iv n,iv m]) k:=λL' n m h=>by
  rw[hB,SA];exact jN hH (Wk.refl _) (by simp[jV,fe]) h
 rw[dT];clear dT hg hB;(try simp only[seval,aj.av,bz,cg]);refine⟨kM x,ek,?_⟩;cases hh:D.has with
 |false=>
  have hE:fS D=11:=by rw[fS,hh];rfl
  rw[hE,hh]at aJ;refine ai ?_;simp only[seval,hE,show ((11:Int)!=0)=true from rfl];refine aD ?_;refine ak ?_;refine bf ?_;exact fY _ 0 11 aJ
 |true=>
  have hE:fS D=0:=by rw[fS,hh];rfl
  rw[hE,hh]at aJ;refine ai ?_;simp only[seval,hE,show ((0:Int)!=0)=false from rfl];refine aD ?_;refine aN ?_;refine ai ?_;simp only[seval,F.aaB,nd,hbs,Cy,cg];rw[SS (i:=28) (by rw[cg];exact SR _)];refine aI ((aiq (s:=s) (q:=q) bF (by have:=hx.dx;omega) (by have:=hx.eN;omega) ?_));(try simp only[seval]);refine bf ?_;exact fY _ _ 0 aJ
end
theorem z2:ie (SF .i64 0) 2=[iv 0,iv 0]:=rfl
section
variable {H:List aa}{k kp:AV->List aa->Prop}
end
namespace Tk
structure iA where
 lo:Int
 hi:Int
 is:Bool
def iA.add (b:iA)(v:Int):iA:=if b.is then⟨min b.lo v,max b.hi v,true⟩else⟨v,v,true⟩
end Tk
def Tk.iA.l (b:iA):List AV:=[iv b.lo,iv b.hi,bv b.is]
section
variable {lv:Bool}{H:List aa}{k kp:AV->List aa->Prop}
theorem aiv{b:iA}{v:Int}{i:Nat}(hi:H[i]?=some (.cells b.l 112))(hk:k (.aM []) (H.set i (.cells (b.add v).l 112))):bk lv SC 74 H [.op i 0,iv v] k kp:=by
 refine bL (rs:=[]) (nt:=38) Tryz.f74 λhH hA=> ?_;simp only[bt,SX];have bD:=e_ hi;obtain⟨hp,fz⟩:∃hp:List AV->List aa,∀l,hp l=H.set i (.cells l 112):=⟨_,λ_=>rfl⟩;have h0:H=hp b.l:=by rw[fz];exact(qY hi).symm
 have hg:∀l,(hp l)[i]?=some (.cells l 112):=λl=>by rw[fz,UP,if_pos rfl,if_pos bD]
 have hs:∀l l',(hp l).set i (.cells l' 112)=hp l':=λl l'=>by rw[fz,fz,W4]
 have fin:∀(N:Nat)(l:List AV),l=(b.add v).l->cK N (hp l) (.aM []) k:=λN l e=>by
  rw[e,fz];exact cr hk
 rw[h0];clear hH hA fz h0 hi hk;refine ai ?_;simp only[seval,hg,iA.l];refine aD ?_;refine⟨λh=> ?_,λh=> ?_⟩
 ·have hb:b.is=false:=by simpa using h
  refine ai ?_;simp(maxSteps:=4000000) only[seval,hg,hs];refine pu [16,19] [0,1,2,3,4,5,6,7,8,9,10,11,12,13,14,15,16,17,18,19] [⟨0,false,[],[]⟩,⟨1,false,[],[([16],[16])]⟩,⟨2,false,[],[]⟩,⟨3,false,[],[]⟩,⟨4,false,[],[]⟩,⟨5,false,[],[]⟩,⟨6,false,[],[]⟩,⟨7,false,[],[]⟩,⟨8,false,[],[]⟩,⟨9,false,[],[]⟩,⟨10,false,[],[]⟩,⟨11,false,[],[]⟩,⟨12,false,[],[([16],[16])]⟩,⟨13,false,[],[([16],[16])]⟩,⟨14,false,[],[]⟩,⟨15,false,[],[]⟩,⟨16,true,[16],[]⟩,⟨17,false,[16],[]⟩,⟨18,false,[16],[]⟩,⟨19,true,[16,19],[]⟩] (λD=>bif isDone 19 D then hp [iv (min v v),iv (max v v),bv true]else bif isDone 16 D then hp [iv (min v v),iv v,bv true]else hp [iv v,iv v,bv true]) ?_;simp only[seval,hg,hs];have m1:(if v<v then v else v)=v:=by split<;>rfl
  have m2:min v v=v:=by omega
  have m3:max v v=v:=by omega
  rw[m1,m2,m3];exact⟨rfl,rfl,fin _ _ (by rw[iA.add,if_neg (by rw[hb];decide)];rfl)⟩
 ·have hb:b.is=true:=by simpa using h
  refine aN ?_;refine pu [16,19] [0,1,2,3,4,5,6,7,8,9,10,11,12,13,14,15,16,17,18,19] [⟨0,false,[],[]⟩,⟨1,false,[],[([16],[16])]⟩,⟨2,false,[],[]⟩,⟨3,false,[],[]⟩,⟨4,false,[],[]⟩,⟨5,false,[],[]⟩,⟨6,false,[],[]⟩,⟨7,false,[],[]⟩,⟨8,false,[],[]⟩,⟨9,false,[],[]⟩,⟨10,false,[],[]⟩,⟨11,false,[],[]⟩,⟨12,false,[],[([16],[16])]⟩,⟨13,false,[],[([16],[16])]⟩,⟨14,false,[],[]⟩,⟨15,false,[],[]⟩,⟨16,true,[16],[]⟩,⟨17,false,[16],[]⟩,⟨18,false,[16],[]⟩,⟨19,true,[16,19],[]⟩] (λD=>bif isDone 19 D then hp [iv (min b.lo v),iv (max b.hi v),bv b.is]else bif isDone 16 D then hp [iv (min b.lo v),iv b.hi,bv b.is]else hp [iv b.lo,iv b.hi,bv b.is]) ?_;simp only[seval,hg,hs];have m1:(if v<b.lo then v else b.lo)=min b.lo v:=by split<;>omega
  have m2:(if b.hi<v then v else b.hi)=max b.hi v:=by split<;>omega
  rw[m1,m2];exact⟨rfl,rfl,fin _ _ (by rw[iA.add,if_pos hb,hb];rfl)⟩
end
open Go.Conc Go.Proofs Go.Gg.Tk
namespace Tk
def vX (hour:Nat)(hs:List (List Int)):iA:=hs.foldl (λb h=>b.add (h.getD hour 0)) ⟨0,0,false⟩
end Tk
section
variable {lv:Bool}{H:List aa}{k kp:AV->List aa->Prop}
theorem aiu{x:aj}{hour:Nat}{ih ir:Nat}(hh:(hour:Int)<=x.hours)(h1:H[ih]?=some (.cells [iv hour] 3))(hr:H[ir]?=some (.cells x.l 26))(hk:k (bv true) H):bk lv SC 73 H [.op ih 0,.op ir 0] k kp:=by
 refine bL (rs:=[.tmp 2]) (nt:=8) Tryz.f73 λhH hA=> ?_;simp only[bt,SX];have bT:x.l=[iv x.first,iv x.hours,iv x.am,dP x.seen,aS x.pieces,aS x.aB]:=rfl;have cV:(decide ((hour:Int)<0)||decide ((hour:Int)>x.hours))=false:=by simp;omega
 refine ak ?_;refine ai ?_;simp only[seval,h1,hr,bT];refine aI ((te ?_));(try simp only[seval,cV]);refine bf ?_;exact cr hk
theorem aii{x:aj}{hour:Nat}(hx:x.Ok)(hh:(hour:Int)<=x.hours)(hm:H[0]?=some .main)(hk:∀D,ez x 0 D->(D.has=false->k (.aM [.agg [iv 0,iv 0],iv 11]) H)/\(D.has=true->∀hs:List (List Int),hs.Perm D.aK->k (.aM [.agg [iv (vX hour hs).lo,iv (vX hour hs).hi],iv 0]) H)):bk true SC 36 H [x.av,iv hour] k kp:=by
 refine bL (rs:=[.cell 4 46,.tmp 5]) (nt:=41) Tryz.f36 λhH hA=> ?_;simp only[bt,SX,aj.av];have hp:=hx.am;have KO:=hx.hours;obtain⟨p,dQ⟩:∃p:Nat,x.am=p:=⟨x.am.toNat,by omega⟩;have aP:∀(L:List aa),(H++L)[H.length]?=L[0]?:=λL=>aW H L 0;have cW:∀(L:List aa),(H++L)[H.length+1]?=L[1]?:=λL=>aW H L 1;have kV:∀(L:List aa),(H++L)[H.length+2]?=L[2]?:=λL=>aW H L 2;have gB:∀(L:List aa)(y:aa),(H++L).set (H.length+2) y=H++L.set 2 y:=λL y=>cY H L 2 y;have bz:x.l.length=6:=rfl;have ew:TU 6 x.l=x.l:=rfl;refine ak ?_;refine ai ?_;simp only[seval,aP,bz,ew,T_,UC,Uj,TP];refine aI ((mC (x:=x) (b:=true) hx dQ (eI hm) (λL k kp hk=>bX (aiu hh (by rw[SA,cW];rfl) (by rw[SA,aP];rfl) hk)) (λh=>by cases h) λ_ js D L mp dM dW bF kJ hg=> ?_));have fb:ez x 0 D:=⟨p,js,dQ,dM,dW,bF⟩;have cg:=Kn.len bF mp;have ek:=lg D mp;obtain⟨iP,cM⟩:=hk D fb;obtain⟨Bf,aU⟩:∃Bf:List AV->List aa,∀l,Bf l=H++([aa.cells x.l 26,.cells [iv hour] 3,.cells l 46]++L):=⟨_,λ_=>rfl⟩;have dT:H++[aa.cells x.l 26,.cells [iv hour] 3,.cells [iv 0,iv 0] 46]++L=Bf [iv 0,iv 0]:=by rw[aU,SA]
 obtain⟨N,hN⟩:∃N,N=H.length+3+L.length:=⟨_,rfl⟩;have bA:∀l,(Bf l).length=N:=λl=>by rw[aU,hN];simp;omega
 have b1:∀l (L':List aa),(Bf l++L')[H.length+1]?=some (.cells [iv hour] 3):=λl L'=>by rw[aU,SA,cW];rfl
 have b2:∀l (L':List aa),(Bf l++L')[H.length+2]?=some (.cells l 46):=λl L'=>by rw[aU,SA,kV];rfl
 have uv:∀l l' (L':List aa),(Bf l++L').set (H.length+2) (.cells l' 46)=Bf l'++L':=λl l' L'=>by rw[aU,SA,gB,aU];simp
 have bn:∀l (L':List aa)(j:Nat),(Bf l++L')[N+j]?=L'[j]?:=λl L' j=>by rw[<- bA l,aW]
 have dZ:∀l (L':List aa)(j:Nat)(y:aa),(Bf l++L').set (N+j) y=Bf l++L'.set j y:=λl L' j y=>by rw[<- bA l,cY]
 rw[dT]at hg⊢;have fY:∀(l:List AV)(L':List aa)(a b:Int)(m:Int),k (.aM [.agg [iv a,iv b],iv m]) H->cK H.length (Bf l++L') (.aM [.agg [iv a,iv b],iv m]) k:=λl L' a b m h=>by
  rw[aU,SA];exact jN hH (Wk.refl _) (by simp[jV,fe,tX]) h
 (try simp only[seval,aj.av,bz,cg,bA]);refine⟨kM x,ek,?_⟩;cases je:D.has with
 |false=>
  have hE:fS D=11:=by rw[fS,je];rfl
  refine ai ?_;simp only[seval,hE,show ((11:Int)!=0)=true from rfl];refine aD ?_;refine ai ?_;simp only[seval,b2,uv];refine nH ?_;simp only[seval,b2];exact fY _ _ 0 0 11 (iP je)
 |true=>
  have hE:fS D=0:=by rw[fS,je];rfl
  refine ai ?_;simp only[seval,hE,show ((0:Int)!=0)=false from rfl];refine aD ?_;refine aN ?_;refine ai ?_;simp only[seval,bA];refine ai ?_;simp only[seval,T_,UC,Uj,TP];have pE:(D.l mp).drop 1=.mp mp::((D.l mp).drop 2):=rfl;obtain⟨ts,dG⟩:∃ts,ts=D.aK.zipIdx:=⟨_,rfl⟩;obtain⟨ck,FL⟩:∃ck,ck=D.aK.length:=⟨_,rfl⟩;have ww:∀l (L':List aa),(Bf l++L')[mp]?=some (.obj (.map (ts.map eO).toArray ck)):=λl L'=>by
   have h0:(Bf [iv 0,iv 0])[mp]?=some (setH D.aK):=hg;have aG:mp≠H.length+2:=λe=>by
    have:=b2 [iv 0,iv 0] [];rw[SI,<- e,h0]at this;cases this
   have h1:(Bf l)[mp]?=some (setH D.aK):=by
    have:=uv [iv 0,iv 0] l [];rw[SI,SI]at this;rw[<- this,T7 (λe=>aG e.symm)];exact h0
   rw[dG,FL];exact eI h1
  have qB:∀y∈ts,y.2<ck:=λy hy=>by rw[dG]at hy;have:=List.snd_lt_add_of_mem_zipIdx hy;omega
  have CS:(ts.map (·.2)).Nodup:=by rw[dG,show (λy:List Int×Nat=>y.2)=Prod.snd from rfl,List.zipIdx_map_snd];exact List.nodup_range'
  have h4:∀y∈ts,y.1.length=4:=λy hy=>by rw[dG]at hy;exact bF.h4 _ (Eh hy)
  have fW:=Pm ts ck qB;have LN:ts.map (·.1)=D.aK:=by rw[dG,show (λy:List Int×Nat=>y.1)=Prod.fst from rfl,List.zipIdx_map_fst]
  clear dG;refine ai ?_;simp only[seval,bA,bn,pE,ww];obtain⟨ko,fz⟩:∃ko:iA->Array Nat->List aa,∀b sn,ko b sn=Bf [iv 0,iv 0]++[.cells x.l 76,.cells (D.l mp) 88,.cells b.l 112,.iter mp ck sn ck]:=⟨_,λ_ _=>rfl⟩;have p1:∀b sn (L':List aa),(ko b sn++L')[H.length+1]?=some (.cells [iv hour] 3):=λb sn L'=>by rw[fz,SA];exact b1 _ _
  have p2:∀b sn (L':List aa),(ko b sn++L')[N+2]?=some (.cells b.l 112):=λb sn L'=>by rw[fz,SA,bn];rfl
  have p3:∀b sn (L':List aa),(ko b sn++L')[N+3]?=some (.iter mp ck sn ck):=λb sn L'=>by rw[fz,SA,bn];rfl
  have p3':∀b sn,(ko b sn)[N+3]?=some (.iter mp ck sn ck):=λb sn=>by have:=p3 b sn [];rwa [SI]at this
  have p4:∀b sn (L':List aa),(ko b sn++L')[N+4]?=L'[0]?:=λb sn L'=>by rw[fz,SA,bn];rfl
  have pm:∀b sn (L':List aa),(ko b sn++L')[mp]?=some (.obj (.map (ts.map eO).toArray ck)):=λb sn L'=>by rw[fz,SA];exact ww _ _
  have Nb:∀b sn,(ko b sn)[mp]?=some (.obj (.map (ts.map eO).toArray ck)):=λb sn=>by have:=pm b sn [];rwa [SI]at this
  have s2:∀b sn b' (L':List aa),(ko b sn++L').set (N+2) (.cells (iA.l b') 112)=ko b' sn++L':=λb sn b' L'=>by rw[fz,SA,dZ,fz,SA];rfl
  have s3:∀b sn NO,(ko b sn).set (N+3) (.iter mp ck NO ck)=ko b NO:=λb sn NO=>by rw[fz,dZ,fz];rfl
  have pl:∀b sn,(ko b sn).length=N+4:=λb sn=>by rw[fz];simp[bA]
  have aR:Bf [AV.val (SF SE 0),AV.val (SF SE 0)]++[.cells x.l 76,.cells (D.l mp) 88,.cells [AV.val (SF SE 0),AV.val (SF SE 0),AV.val (W8 false)] 112,.iter mp ck #[] ck]=ko ⟨0,0,false⟩ #[]:=by rw[fz];rfl
  rw[aR];have pH:hour<4:=by omega
  have b4:(0<=(hour:Int)/\(hour:Int)<4)=True:=by simp;omega
  have s46:∀b sn l,(ko b sn).set (H.length+2) (.cells l 46)=Bf l++[.cells x.l 76,.cells (D.l mp) 88,.cells b.l 112,.iter mp ck sn ck]:=λb sn l=>by rw[fz,uv]
  have p46:∀b sn,(ko b sn)[H.length+2]?=some (.cells [iv 0,iv 0] 46):=λb sn=>by rw[fz,b2]
  have p2':∀b sn,(ko b sn)[N+2]?=some (.cells (iA.l b) 112):=λb sn=>by have:=p2 b sn [];rwa [SI]at this
  refine cL ?_;refine zx (measure λvs:List (List Int×Nat)=>ts.length-vs.length).wf (λvs=>[]) (λvs=>ko (vX hour (vs.map (·.1))) (vs.map (·.2)).toArray) (λvs=>(vs.map (·.2)).Nodup/\∀y∈vs,y∈ts) [] (λ_ _=>rfl) (by simp) rfl (λ_ _=>by simp[pl]) ⟨by simp,by simp⟩ (λb_ dj vs au R hR=> ?_);refine ai ?_;simp only[seval,p3',Nb,s3];refine⟨fW.elim .inl (λh=> .inr (.inl h)),λe he hn=> ?_,λhs=> ?_⟩
  ·obtain⟨y,hy,rfl⟩:∃y∈ts,eO y=e:=(by simpa using he);refine aD ?_;refine aN ?_;refine cL ?_;have tj:=h4 y hy;have Kk:(eO y).born=y.2:=rfl;have hlen:(y.1.map iv).length=4:=(by simp[tj]);have Kv:T1 4 [AV.val (SF SE 0),AV.val (SF SE 0),AV.val (SF SE 0),AV.val (SF SE 0)]=[]:=rfl;obtain⟨w,hw⟩:=cD (xs:=y.1) (i:=hour) (by omega);have LP:y.1.getD hour 0=w:=(by rw[SD,hw];rfl);have LU:y.2∉vs.map (·.2):=(by simpa[eO]using hn);have F9:((vs.map (·.2)).toArray.push y.2)=((vs++[y]).map (·.2)).toArray:=(by simp);have ajR:(vX hour (vs.map (·.1))).add w=vX hour ((vs++[y]).map (·.1)):=by
    unfold vX;rw[TN,ZN];show _=iA.add _ (y.1.getD hour 0);rw[LP]
   have tL:((vs++[y]).map (·.2)).Nodup/\∀z∈vs++[y],z∈ts:=by
    refine⟨?_,λz hz=> ?_⟩
    ·rw[TN,U4];refine⟨au.1,by simp,λa ha b hb=> ?_⟩;simp at hb;subst hb;intro e;subst e;exact LU ha
    ·rcases SV.1 hz with h|h
     ·exact au.2 z h
     ·rw[S9.1 h];exact hy
   have atx:vs.length<ts.length:=by
    have h1:(vs++[y]).Nodup:=Dy _ tL.1;have:=h1.length_le_of_subset tL.2;simp at this;omega
   have rZ:ts.length-(vs++[y]).length<ts.length-vs.length:=(by simp;omega);have F4:∀b sn,bM (ko b sn):=λb sn z hz=>by
    have Q7:bM (ko ⟨0,0,false⟩ #[]):=b_;rw[pl];rw[fz]at hz;have cV:∀z,z∈ko ⟨0,0,false⟩ #[]->fh (N+4) z:=λz hz=>by
     have:=Q7 z hz;rwa [pl]at this
    rcases SV.1 hz with h|h
    ·exact cV z (by rw[fz];exact Tf _ h)
    ·simp only[SL,S0,or_false]at h;rcases h with rfl|rfl|rfl|rfl
     ·exact cV _ (by rw[fz];simp)
     ·exact cV _ (by rw[fz];simp)
     ·intro a ha;simp only[iA.l,SL,S0,or_false]at ha;rcases ha with rfl|rfl|rfl<;>exact .val _
     ·show mp<N+4;have:=e_ (Nb ⟨0,0,false⟩ #[]);rwa [pl]at this
   refine ai ?_;simp only[seval,p3',Nb,s3,pl,p4,Kk,Array.back?_push,Qs CS hy,abF,tj,hlen,Kv];refine ai ?_;simp only[seval,p1,p4,b4,ly hw];refine aI ((aiv (b:=vX hour (vs.map (·.1))) (v:=w) (i:=N+2) (p2 _ _ _) ?_));rw[s2,ajR,F9];(try simp only[seval]);refine hR _ ⟨vs++[y],rZ,tL,?_⟩;exact acf (qS rfl rfl) (by simp only[seval]<;>simp[bw,Wk.refl]) (F4 _ _) (by simp[fe])
  ·have mH:vs.Perm ts:=acp au.1 CS au.2 λy hy=>by
    have:=hs (eO y) (by simp;exact⟨y.1,y.2,hy,rfl⟩) (qB y hy);simpa[eO]using this
   have Ln:(vs.map (·.1)).Perm D.aK:=by
    have:=mH.map (·.1);rw[LN]at this;exact this
   have aJ:=cM je _ Ln;generalize Ab:vX hour (vs.map (·.1))=bv' at aJ;refine aD ?_;refine cq ?_;refine ai ?_;simp only[seval,p2',p46,s46,iA.l,Ab];refine nH ?_;simp only[seval,b2];exact fY _ _ _ _ 0 aJ
end
open Go.Conc Go.Proofs Go.Gg.Tk
namespace Tk
end Tk
section
variable {lv:Bool}{H:List aa}{k kp:AV->List aa->Prop}
end
open Go.Conc Go.Proofs Go.Gg.Tk
namespace Tk
def AG (out n:Int):Int:=if 0<=n/\(out<0\/n<out)then n else out
def yG (l:List Int):Int:=l.foldl AG (-1)
def uE (aX:List Nat)(i:Nat):List Int:=(SZ i).flatMap λs=>if 1<(gg (aX.getD s 0) 0 16).length then[-1]else gg (aX.getD s 0) 0 16
theorem QS(aX:List Nat)(i:Nat):uE aX (i+1)=uE aX i++(if 1<(gg (aX.getD i 0) 0 16).length then[-1]else gg (aX.getD i 0) 0 16):=by
 unfold uE;rw[Vk,Vz];simp
theorem QR(aX:List Nat):∀i,(uE aX i).length<=i
 |0=>by simp[uE]
 |i+1=>by
  have:=QR aX i;rw[QS,SP];split
  ·simp;omega
  ·omega
end Tk
theorem HP{a a' b b':AV}(h1:Wk a a')(h2:Wk b b'):Wk (.aM [a,b]) (.aM [a',b']):=λE v h=>by
 cases h with
 |aM hs h=>
  refine .aM hs λi x e=> ?_
  match i with
  |0=>cases e;exact h1 _ _ (h 0 a rfl)
  |1=>cases e;exact h2 _ _ (h 1 b rfl)
open Go.Conc Go.Proofs Go.Gg.Tk
section
variable {lv:Bool}{H:List aa}{k kp:AV->List aa->Prop}
theorem aib{x:aj}(hx:x.Ok)(hm:H[0]?=some .main)(hk:∀D,ez x 2 D->(D.has=false->k (.aM [br [],iv 11]) H)/\(D.has=true->k (.aM [br (uE D.aX x.aB.length),iv 0]) H)):bk true SC 26 H [x.av] k kp:=by
 refine bL (rs:=[.tmp 2,.tmp 3]) (nt:=39) Tryz.f26 λhH hA=> ?_;simp only[bt,SX,aj.av];have hp:=hx.am;have aR:=hx.dx;obtain⟨p,dQ⟩:∃p:Nat,x.am=p:=⟨x.am.toNat,by omega⟩;have bT:x.l=[iv x.first,iv x.hours,iv x.am,dP x.seen,aS x.pieces,aS x.aB]:=rfl;have aP:∀(L:List aa),(H++L)[H.length]?=L[0]?:=λL=>aW H L 0;have bz:x.l.length=6:=rfl;have ew:TU 6 x.l=x.l:=rfl;refine ak ?_;refine ai ?_;simp only[seval,aP,bz,ew];refine aI ((mC (x:=x) hx dQ (eI hm) Ix (λh=>by cases h) λ_ js D L mp dM dW bF kJ hg=> ?_));have fb:ez x 2 D:=⟨p,js,dQ,dM,dW,bF⟩;have cg:=Kn.len bF mp;have ek:=lg D mp;obtain⟨iP,cM⟩:=hk D fb;obtain⟨Y,hY⟩:∃Y:List aa,Y=[aa.cells x.l 26]++L:=⟨_,rfl⟩;obtain⟨B,hB⟩:∃B,B=H++Y:=⟨_,rfl⟩;have dT:H++[aa.cells x.l 26]++L=B:=by rw[hB,hY,SA]
 have Aa:∀(L':List aa),(B++L')[H.length]?=some (.cells x.l 26):=λL'=>by rw[hB,hY,SA,aP];rfl
 have bn:∀(L':List aa)(j:Nat),(B++L')[B.length+j]?=L'[j]?:=λL' j=>aW B L' j;have dZ:∀(L':List aa)(j:Nat)(y:aa),(B++L').set (B.length+j) y=B++L'.set j y:=λL' j y=>cY B L' j y;have fY:∀(L':List aa)(ns:List Int)(e:End)(m:Int),k (.aM [br ns,iv m]) H->cK H.length (B++L') (.aM [.sl ns.length (ns.map iv) e,iv m]) k:=λL' ns e m h=>by
  rw[hB,SA];exact jN hH (HP (iz _ _ _) (Wk.refl _)) (by simp[jV,fe,br,vq]) h
 rw[dT];clear dT hg;(try simp only[seval,aj.av,bz,cg]);refine⟨kM x,ek,?_⟩;cases je:D.has with
 |false=>
  have hE:fS D=11:=by rw[fS,je];rfl
  refine ai ?_;simp only[seval,hE,show ((11:Int)!=0)=true from rfl];refine aD ?_;refine ak ?_;refine bf ?_;exact fY _ [] .exact 11 (iP je)
 |true=>
  have hE:fS D=0:=by rw[fS,je];rfl
  refine ai ?_;simp only[seval,hE,show ((0:Int)!=0)=false from rfl];refine aD ?_;refine aN ?_;refine ak ?_
  (repeat apply iY);refine vU (t:=7) (sz:=1) (el:=3) (by simp only[seval]<;>rfl) ?_
  have rP:T1 5 x.l=[.sl x.aB.length (x.aB.flatMap aC.l) .shut]:=rfl;refine ai ?_;simp only[seval,Aa,rP];have eA:∀(L':List aa),(B++L')[B.length+1]?=L'[1]?:=λL'=>bn L' 1;have zA:∀(L':List aa),(B++L')[B.length+2]?=L'[2]?:=λL'=>bn L' 2;have uv:∀(L':List aa)(y:aa),(B++L').set (B.length+2) y=B++L'.set 2 y:=λL' y=>dZ L' 2 y;obtain⟨gl,kX⟩:∃gl:Nat->List Int,∀i,gl i=uE D.aX i:=⟨_,λ_=>rfl⟩;have CJ:gl 0=[]:=by rw[kX];rfl
  have KL:∀i,(gl i).length<=i:=λi=>by rw[kX];exact QR _ _
  refine cL ?_;refine iD x.aB.length (λi:Nat=>[(7,.sl (gl i).length ((gl i).map iv) (.opn (B.length+2))),(22,iv i)]) (λi=>B++[.cells x.l 76,.cells (D.l mp) 88,.tail (gl i).length 1 3]) (λi=>True) (λ_ _=>rfl) (by rw[CJ];simp only[seval];simp[bw,Wk.refl]) (by rw[CJ];rfl) (λ_ _ _=>by simp) trivial (λb_ dj i cV _ R hR=> ?_);refine ak ?_;refine aD ?_;refine⟨λh=> ?_,λh=> ?_⟩
  ·have bD:i<x.aB.length:=(by omega);obtain⟨u,hu⟩:=cD (xs:=D.aX) (i:=i) (by rw[bF.aX];omega);have lu:=bF.ml _ (Td hu);have b3:(0<=(i:Int)/\(i:Int)<3)=True:=(by simp;omega);have gv:SE.wrap ((i:Int)+1)=((i+1:Nat):Int):=(by rw[bG _ (by omega)];rfl);have CF:=Kn.DM bF (mp:=mp) hu;have dl:gl (i+1)=gl i++(if 1<(gg u 0 16).length then[-1]else gg u 0 16):=by
    rw[kX,kX,QS,SD,hu];rfl
   have Sb:=KL i;have iG:=MA u 0 16;refine aN ?_;refine ak ?_;refine ai ?_;simp only[seval,eA,b3,CF];refine aI ((Jr lu (by decide) ?_));(try simp only[seval,br]);refine ak ?_;refine aD ?_;refine⟨λhb=> ?_,λhb=> ?_⟩
   ·refine ai ?_;simp only[seval,z1];(try refine⟨by decide,?_⟩);refine ai ?_;simp only[seval,zA,uv];refine⟨by omega,?_⟩;refine ai ?_;simp only[seval,gv];have nd:1<(gg u 0 16).length:=(by have h2:(1:Int)<((gg u 0 16).length:Int):=(by simpa using hb);omega);rw[if_pos nd]at dl;refine hR _ ⟨bD,trivial,?_⟩;rw[dl,TN,SP];exact dn
   ·refine aN ?_;refine ai ?_;simp only[seval,zA,uv];refine⟨by omega,?_⟩;refine ai ?_;simp only[seval,gv];have nd:¬1<(gg u 0 16).length:=(by have h2:((gg u 0 16).length:Int)<=1:=(by simpa using hb);omega);rw[if_neg nd]at dl;refine hR _ ⟨bD,trivial,?_⟩;rw[dl,TN,SP];exact dn
  ·have dF:i=x.aB.length:=(by omega);subst dF;refine cq ?_;refine ak ?_;refine bf ?_;have aJ:=cM je;rw[<- kX]at aJ;exact fY _ _ _ 0 aJ
theorem air{ns:List Int}{e:End}(iR:ns.length<=16)(hk:k (iv (yG ns)) H):bk lv SC 69 H [.sl ns.length (ns.map iv) e] k kp:=by
 refine bL (rs:=[.tmp 2]) (nt:=26) Tryz.f69 λhH hA=> ?_;simp only[bt,SX];refine ak ?_;refine ak ?_;refine ak ?_;refine cL ?_;refine iD ns.length (λi:Nat=>[(3,iv (yG (ns.take i))),(8,iv i)]) (λ_=>_) (λi=>True) (λ_ _=>rfl) (by simp only[seval];simp[bw,Wk.refl];exact Wk.refl _) rfl (λ_ _ _=>rfl) trivial (λb_ dj i cV _ R hR=> ?_);refine ak ?_;refine aD ?_;refine⟨λh=> ?_,λh=> ?_⟩
 ·have bD:i<ns.length:=by omega
  obtain⟨n,hn⟩:=cD bD;have gv:SE.wrap ((i:Int)+1)=((i+1:Nat):Int):=by rw[bG _ (by omega)];rfl
  have dl:yG (ns.take (i+1))=AG (yG (ns.take i)) n:=by
   unfold yG;rw[VJ,hn,ZN];rfl
  generalize yG (ns.take i)=o at dl hR⊢;refine aN ?_;refine ai ?_;simp only[seval,ff hn,j8 bD];by_cases c1:0<=n
  ·have d1:decide (n>=0)=true:=decide_eq_true c1;by_cases c2:o<0
   ·have d2:decide (o<0)=true:=decide_eq_true c2;refine ai ?_;simp only[seval,d1,d2];refine aD ?_;refine ak ?_;refine ai ?_;simp only[seval,gv];rw[AG,if_pos ⟨c1,.inl c2⟩]at dl;refine hR _ ⟨bD,trivial,?_⟩;rw[dl];exact dn
   ·have d2:decide (o<0)=false:=decide_eq_false c2;by_cases c3:n<o
    ·have d3:decide (n<o)=true:=decide_eq_true c3;refine ai ?_;simp only[seval,d1,d2,d3];refine aD ?_;refine ak ?_;refine ai ?_;simp only[seval,gv];rw[AG,if_pos ⟨c1,.inr c3⟩]at dl;refine hR _ ⟨bD,trivial,?_⟩;rw[dl];exact dn
    ·have d3:decide (n<o)=false:=decide_eq_false c3;refine ai ?_;simp only[seval,d1,d2,d3];refine aD ?_;refine aN ?_;refine ai ?_;simp only[seval,gv];rw[AG,if_neg (λhc=>hc.2.elim c2 c3)]at dl;refine hR _ ⟨bD,trivial,?_⟩;rw[dl];exact dn
  ·have d1:decide (n>=0)=false:=decide_eq_false c1;(repeat apply iY);refine afF (by kernel_rfl) ?_;simp only[seval,d1];refine aD ?_;refine aN ?_;refine ai ?_;simp only[seval,gv];rw[AG,if_neg (λhc=>c1 hc.1)]at dl;refine hR _ ⟨bD,trivial,?_⟩;rw[dl];exact dn
 ·have:i=ns.length:=by omega
  subst this;refine cq ?_;refine ak ?_;refine bf ?_;rw[TQ];exact cr hk
end
namespace Tk
def aC.more (y:aC)(n:Int):aC:=⟨⟨y.number.min+n,y.number.max+n⟩,y.hour⟩
def mq (h:List Int)(n:Int):Nat->Int
 |0=> -1
 |i+1=>if h.getD i 0<=n/\n<h.getD (i+1) 0 then i else mq h n i
end Tk
section
variable {lv:Bool}{H:List aa}{k kp:AV->List aa->Prop}
theorem aia{a b:Int}(hk:k (.agg [iv a,iv b]) H):bk lv SC 24 H [iv a,iv b] k kp:=by
 refine bL (rs:=[.cell 4 46]) (nt:=8) Tryz.f24 λhH hA=> ?_;simp only[bt,SX];refine ak ?_;refine ak ?_;refine bf ?_;exact jN hH (Wk.refl _) (by simp[tX,fe]) hk
theorem Qk{a b c:Int}(hk:k (Seen.av ⟨a,⟨b,c⟩⟩) H):bk lv SC 78 H [iv a,iv b,iv c] k kp:=by
 refine bL (rs:=[.cell 6 61]) (nt:=12) Tryz.f78 λhH hA=> ?_;simp only[bt,SX];refine ak ?_;refine ak ?_;refine bf ?_;exact jN hH (Wk.refl _) (by simp[tX,fe]) hk
theorem rG{a b c d:Int}(hk:k (aC.av ⟨⟨a,b⟩,⟨c,d⟩⟩) H):bk lv SC 79 H [iv a,iv b,iv c,iv d] k kp:=by
 refine bL (rs:=[.cell 8 48]) (nt:=16) Tryz.f79 λhH hA=> ?_;simp only[bt,SX];refine ak ?_;refine ak ?_;refine bf ?_;exact jN hH (Wk.refl _) (by simp[tX,fe]) hk
theorem aik{h:List Int}{n:Int}{e:End}(hl:h.length<=4)(hk:k (iv (mq h n (h.length-1))) H):bk lv SC 40 H [.sl h.length (h.map iv) e,iv n] k kp:=by
 refine bL (rs:=[.tmp 4]) (nt:=31) Tryz.f40 λhH hA=> ?_;simp only[bt,SX];refine ak ?_;refine ak ?_;refine ak ?_;refine cL ?_;refine iD (h.length-1) (λi:Nat=>[(5,iv (mq h n i)),(6,iv i)]) (λ_=>_) (λi=>True) (λ_ _=>rfl) (by simp only[seval];simp[bw,Wk.refl];exact Wk.refl _) rfl (λ_ _ _=>rfl) trivial (λb_ dj i cV _ R hR=> ?_);have gv:SE.wrap ((i:Int)+1)=((i+1:Nat):Int):=by rw[bG _ (by omega)];rfl
 refine ai ?_;simp only[seval,gv];refine aD ?_;refine⟨λhc=> ?_,λhc=> ?_⟩
 ·have bD:i+1<h.length:=by omega
  obtain⟨a,ha⟩:=cD (xs:=h) (i:=i) (by omega);obtain⟨b,hb⟩:=cD (xs:=h) (i:=i+1) bD;have gL:h.getD i 0=a:=by rw[SD,ha];rfl
  have dL:h.getD (i+1) 0=b:=by rw[SD,hb];rfl
  have jb:=j8 (show i<h.length by omega);have pB:(0<=(i:Int)+1/\(i:Int)+1<(h.length:Int))=True:=by simp;omega
  have me:((i:Int)+1).toNat=i+1:=by omega
  have dl:mq h n (i+1)=if a<=n/\n<b then(i:Int)else mq h n i:=by rw[mq,gL,dL]
  refine aN ?_;refine cL ?_;by_cases c1:a<=n
  ·have d1:decide (a<=n)=true:=decide_eq_true c1;by_cases c2:n<b
   ·have d2:decide (n<b)=true:=decide_eq_true c2;refine ai ?_;simp only[seval,ff ha,ff hb,jb,pB,me,d1,d2,gv];refine aD ?_;refine ak ?_;refine ai ?_;simp only[seval,gv];rw[if_pos ⟨c1,c2⟩]at dl;refine hR _ ⟨by omega,trivial,?_⟩;rw[dl];exact dn
   ·have d2:decide (n<b)=false:=decide_eq_false c2;refine ai ?_;simp only[seval,ff ha,ff hb,jb,pB,me,d1,d2,gv];refine aD ?_;refine aN ?_;refine ai ?_;simp only[seval,gv];rw[if_neg (λhh=>c2 hh.2)]at dl;refine hR _ ⟨by omega,trivial,?_⟩;rw[dl];exact dn
  ·have d1:decide (a<=n)=false:=decide_eq_false c1;refine ai ?_;simp only[seval,ff ha,jb,d1];refine aD ?_;refine aN ?_;refine ai ?_;simp only[seval,gv];rw[if_neg (λhh=>c1 hh.1)]at dl;refine hR _ ⟨by omega,trivial,?_⟩;rw[dl];exact dn
 ·have dF:i=h.length-1:=by omega
  subst dF;refine cq ?_;refine ak ?_;refine bf ?_;exact cr hk
end
open Go.Conc Go.Proofs Go.Gg.Tk
namespace Tk
end Tk
section
variable {lv:Bool}{H:List aa}{k kp:AV->List aa->Prop}
end
open Go.Conc Go.Proofs Go.Gg.Tk
def v7 (τ:a_)(ns:List Int):Int:=ns.getD (dp τ (ns.length-1)).toNat 0
section
variable {lv:Bool}{H:List aa}{k kp:AV->List aa->Prop}{Gf:a_->List aa}{t N:Nat}{τ:a_}{b:Int}
theorem Jp{ns:List Int}{e:End}(hT:dK Gf t N)(hτ:τ.Ok b)(hb:b<2^60)(hn:1<=ns.length)(jh:ns.length<2^20)(hk:k (iv (v7 τ ns)) (Gf (tick τ))):bk lv SC 45 (Gf τ) [.op t 0,.sl ns.length (ns.map iv) e] k kp:=by
 refine bL (rs:=[.tmp 4]) (nt:=13) Tryz.f45 λhH hA=> ?_;simp only[bt,SX];have bU:SE.wrap ((ns.length:Int)-1)=(ns.length:Int)-1:=bG _ (by omega);have hr:=lS τ ((ns.length:Int)-1);unfold v7 at hk;obtain⟨j,hj⟩:=Int.eq_ofNat_of_zero_le hr.1;have fE:j<ns.length:=by omega
 obtain⟨v,hv⟩:=cD fE;rw[hj]at hk;have yu:ns.getD ((j:Int)).toNat 0=v:=by rw[VQ,SD,hv];rfl
 rw[yu]at hk;refine ak ?_;refine ai ?_;simp only[seval,bU];refine aI ((pz hT hτ hb (by omega) ?_));rw[hj];(try simp only[seval,ff hv,j8 fE]);refine bf ?_;exact cr hk
end
end Go.Gg
