/- A part of the proof. -/
import Derived.Test.YtkanpclgnhdbiaaGreatDoorTicketApartCard2
import Derived.Conc.CrowdStepC
import Derived.Conc.LeavingOf
import Derived.Conc.AtomicLaws
import Derived.Conc.AtomicLaws2
import Derived.Conc.MarkLaws
import Derived.Conc.SmallLaws
import Derived.Laws.LoneSync
import Derived.KernelRfl
import Derived.Test.YtkanpclgnhdbiaaGreatDoorProg
import Derived.Conc.TokenWalk
set_option linter.all false
set_option maxRecDepth 4000
set_option maxHeartbeats 4000000
open Array renaming all_eq_true_iff_forall_mem->UQ,append_assoc->XA,empty_append->Xz,ext'->VJ,getD_eq_getD_getElem?->SH,getElem?_eq_getElem->SJ,getElem?_eq_some_iff->SS,getElem?_push->Xp,getElem?_setIfInBounds->Ws,getElem?_setIfInBounds_ne->SX,getElem?_setIfInBounds_self_of_lt->Tb,getElem_mem->X8,isEmpty_empty->Y8,mem_iff_getElem?->YN,replicate->TS,size->ai_
open BitVec renaming ofInt->Ul
open Bool renaming and_eq_true->Te,eq_iff_iff->U9,false_or->ZH,not_eq_true'->TZ,not_false->YM,not_true->aq_,true_or->am'
open Classical renaming byContradiction->Tv
open Eq renaming trans->VP
open Function renaming comp_def->YF
open Go renaming Addr->Vf,CallKind->Xm,Code->Uc,Deferred->U8,Event->Uu,Frame->Ug,FrameMode->Vk,Func->YL,FuncId->TY,GStep->ZP,Goroutine->SG,IntKind->T8,Item->W1,Machine->avS,MemOp->Wi,Oper->Tx,Operand->Tl,Program->SI,ResultVar->UU,Trace->Uq,Value->SP,World->Tq,mark->ak_,step->aj'
open Go.Conc renaming Deaf->U4,Deaf_other->av7,Good->W7,Knows->Wq,QuitsD->Zf,act?_of->am_,casT_eq->ac_,crowd_pick->Z9,deaf_succ->ah_,finishComm_recv->YE,finishComm_send->al',getElem?_stand->Yj,heard_old->Wu,knows_own->Zp,lt_size_of_getElem?->TP,mem_ofEvents->TU,mem_of_getElem?->X7,offersAt_of_not_blocked->U7,offersAt_parked_send->ZR,offersAt_ph->Zy,runT_crowd_spawn->ag',seen_none->ag_,served->Ua,stepG_entry->ZQ,stepG_same->Xl,stepG_value->av6,touch_of->U6,woken_run->Yt
open Go.Conc.QuitsD renaming status->ZS
open Go.ConcN renaming le_sumTo->WG,sumTo_congr->Vv
open Go.Event renaming mute->WK
open Go.Extern.Atomic renaming casT->W2,loadT->Ye,storeT->X6,update->X5
open Go.Extern.Race renaming marked->VO,none_->Xe
open Go.Extern.Sync renaming semacquire->WJ,semrelease->X4
open Go.GStep renaming after->T_
open Go.Goroutine.mk renaming injEq->al_
open Go.Instr renaming loadAt->XK,sureAddr->Vm
open Go.IntKind renaming i64->SD,u32->apT,u64->TD,wrap->Xk
open Go.MemAct renaming ofEvent->Tt
open Go.MemOp renaming ofEvents->Tc
open Go.Obj renaming deferred->awd
open Go.Op renaming intArith->awc
open Go.Operand renaming const->awb,tmp->av1
open Go.Proofs.Tryz renaming f77->XX,prog->SA
open Go.Region renaming wanted->Tj
open Go.Result renaming ok->Yp
open Go.Sem renaming runT_eq->TE
open Go.Trace renaming g?->WE
open Go.Value renaming bool->Xj,chan->X2,int->SF
open Go.World renaming cell?->UC,frozen?->Z4,setChan->Wl
open Int renaming toNat_natCast->VK
open List renaming any_append->Z2,any_cons->Y2,any_eq_true->UO,append_assoc->SC,append_nil->SN,cons_append->Vs,contains_eq_any_beq->Yx,contains_iff_mem->Zc,drop->TR,drop_eq_nil_of_le->T7,eq_nil_of_length_eq_zero->UI,ext_getElem?->Yw,filter_append->XI,findIdx?_eq_none_iff->Ym,findIdx?_eq_some_iff_getElem->XC,flatMap_append->Uk,foldl_append->WZ,foldl_cons->UV,forall_mem_cons->US,getD_eq_getElem?_getD->SE,getElem?_append_left->S0,getElem?_append_right->S_,getElem?_drop->Us,getElem?_eq_getElem->SY,getElem?_eq_none->Ux,getElem?_eq_some_iff->SL,getElem?_map->Tp,getElem?_range->XH,getElem?_set->UX,getElem?_set_ne->Ud,getElem?_toArray->Vq,getElem_mem->Ww,getLast?_eq_some_getLast->X0,getLastD_eq_getLast?->U_,getLast_mem->ZB,head?_append->WU,length_append->SQ,length_cons->Un,length_filter_le->Za,length_map->Ta,length_nil->UA,length_pos_iff->VB,length_range->XV,length_singleton->TH,mapM_cons->Uf,mapM_nil->UH,mapM_toArray->Yc,map_append->To,map_cons->U0,map_nil->ZU,mem_append->SV,mem_append_left->Ti,mem_append_right->S5,mem_cons->SK,mem_flatMap->S4,mem_iff_getElem?->UY,mem_map->Tf,mem_of_getElem?->S6,mem_range->TG,mem_replicate->XG,mem_singleton->S9,mem_toArray->TQ,nil_append->UN,nodup_append->Vh,nodup_nil->WR,nodup_range->Ya,not_mem_nil->SZ,range->SR,range_succ->UZ,replicate->TO,set_append_left->U1,set_cons_succ->UK,set_cons_zero->T9,set_set->Xf,take->Uh,take_add_one->Uo,take_append_of_le_length->TB,take_length->Tn,take_of_length_le->SW,take_succ_cons->VZ,take_succ_eq_append_getElem->U2
open List.cons renaming inj->VE
open Nat renaming add_sub_cancel_left->T5,add_zero->UJ,eq_zero_or_pos->UL,le_refl->SO,le_trans->TL,lt_of_lt_of_le->Tg,lt_succ_self->Uy,reduceAdd->SU,reduceEqDiff->ZJ
open Option renaming bind_eq_bind->T1,bind_eq_some_iff->Th,getD_none->Vw,getD_some->S8,map_eq_some_iff->Ts,map_some->UW,pure_def->Um
open Option.some renaming inj->Wb,injEq->Tm
open Prod.mk renaming inj->W8,injEq->Vb
namespace Go.Gg
open Go.Conc Go.ConcN
section
variable {P:SI}{n0:Nat}{W0:Tq}{V:View}{gs gs':Array SG}{w w':Tq}{sl:Option (Nat×Nat)}{t:Uq}{K:Nat->GS}{Im:cC}{ic:Nat}{p:Phase}{st st':Option eA}
theorem QL{t:Uq}{g i j:Nat}(hi:t.g? i=some g)(hj:t.g? j=some g)(h:i<=j):Before t i j:=by
 rcases Nat.eq_or_lt_of_le h with rfl|h
 ·exact .inl rfl
 ·obtain⟨a,ha,rfl⟩:=Ts.1 hi;obtain⟨b,hb,hg⟩:=Ts.1 hj;exact .inr (.single (.inl ⟨h,by simp[WE,ha,hb,hg]⟩))
theorem Inv.af2(h:Inv P n0 W0 V gs w t K Im ic (some p) st)(aI:p.recv=true){n:Nat}{gi:SG}(aO:gs[ic]?=some gi)(hK:K ic=.acq n)(jK:uA P Im p.c p.Wg (U4 t ic) gi):gE P n0 W0 V gs w sl t K Im ic (some p) st ic:=by
 obtain⟨s,hs,gq,iY,hm⟩:=h.mode aI;obtain⟨m1,m2,m3,m4,m5⟩:=hm.Qq (.inr (by rw[hK];rfl));obtain⟨hd,bQ,g',aP,n',cj⟩:=jK;have nV:∀e∈#[j_ (.acquire (ec p.Wg))],e=j_ (.acquire (ec p.Wg)):=λe he=>by simpa using he
 have abo:g'.status=.running:=cT.running (λd g x=>x.2.1) cj;refine h.us aI (k':=.look n') (s':=.got) gq aO (aP w) (by rw[hd];exact cj) (by rw[hK];exact Ia Im) (λ_=>rfl) rfl (λj hj=>by rw[hK]at hj;cases hj) (.inl rfl) (λe he x hx=> ?_) (λe he=> ?_) (λe he a=> ?_) rfl (λ_ _ _=>rfl) rfl rfl rfl
  ?_ (.inl m1) ?_ (zx iY (by rw[hK];exact .inl (by simp[GS.c9])))
 ·rw[nV e he]at hx;cases hx
 ·rw[nV e he];exact h.low.2
 ·rw[nV e he];simp[j_,Tt]
 ·unfold Mode;have e1:sumTo gs.size (λi=>(upd K ic (.look n') i).cnt)=0:=by rw[lH K (.look n') GS.cnt (by rw[hK];rfl)];exact m4
  have e2:sumTo gs.size (λi=>(upd K ic (.look n') i).late)=0:=by rw[lH K (.look n') GS.late (by rw[hK];rfl)];exact m3
  simp only[e1,e2,bB];exact .inr (.inr (.inr (.inr (.inr (.inl ⟨m1,trivial,trivial,trivial,.inl rfl⟩)))))
 ·have hr:Rest p.Wg t K ic st:=h.out.2.2.1;rw[hs,m2]at hr;rw[ofEvents_one];refine hr.app (λidx a ha hx=> .inr ?_) (λidx a _ ⟨op,ay,_,hx⟩ _=> ?_)
  ·obtain⟨i,Mj,eX,hx⟩:=hx;have amj:=h.core.ti.norel;have own:t.g? idx=some ic->Wq (t++#[{g:=ic,fn:=gi.frame.fn,pos:=gi.frame.place,act:=.ofEvent (j_ (.acquire (ec p.Wg)))}]) ic idx:=λe=>by
    obtain⟨op,ho,pO⟩:=Ts.1 e;rw[<- pO];exact(Zp ho).app _
   rcases hx with hx|rfl|⟨r,se,hle⟩
   ·exfalso;have al4:i<gs.size:=by
     obtain⟨op,ho,pO⟩:=Ts.1 Mj;rw[<- pO];exact h.core.ti.gs op (X7 ho)
    have gX:(K i).cnt=1:=by cases lh:K i<;>rw[lh]at hx<;>first|rfl|cases hx
    have hle:(K i).cnt<=sumTo gs.size λi=>(K i).cnt:=WG (f:=λi=>(K i).cnt) al4;omega
   ·exact own Mj
   ·exact af3 se.act se.heard amj ⟨rfl,rfl⟩ hd (QL Mj se.g hle)
  ·simp only[TQ,SK,SZ,or_false]at ay;subst ay;cases hx
theorem Rest.got{Wg:Nat}(hr:Rest Wg t K ic (some .got)){es:Array Uu}{fn:TY}{pos:String}{K':Nat->GS}:Rest Wg (t++Tc ic fn pos es) K' ic (some .got):=by
 refine hr.app (λidx a ha hx=> .inr (Knows.app _ hx)) (λidx a _ ⟨op,ay,cY,_⟩ _=> .inr (.inr ?_));obtain⟨e,_,rfl⟩:=TU ay;exact Zp cY
theorem Inv.aox(h:Inv P n0 W0 V gs w t K Im ic (some p) st)(aI:p.recv=true){n:Nat}{gi:SG}(aO:gs[ic]?=some gi)(hK:K ic=.look n)(jK:Jx P Im p.c (U4 t ic) gi):gE P n0 W0 V gs w sl t K Im ic (some p) st ic:=by
 obtain⟨s,hs,gq,iY,hm⟩:=h.mode aI;obtain⟨m1,m2,m3,m4⟩:=hm.Qr (.inl (by rw[hK];rfl));obtain⟨hd,bQ,b,o,x,g',kK,aP,n',cj⟩:=jK;have fB:Sat ((K ic).view Im) w:=by have:=h.core.sat ic iY;rwa [show bL V Im K ic=(K ic).view Im by simp[bL];omega]at this
 have L1:=fB.ah b o x (by rw[hK];exact kK);have hb:=fB.Ey (show ((K ic).view Im).ah b o=some x by rw[hK];exact kK);have nV:∀e∈(#[⟨.cell ⟨b,o,none⟩,false,false⟩]:Array Uu),e=⟨.cell ⟨b,o,none⟩,false,false⟩:=λe he=>by simpa using he
 have cO:=h.blind gq;refine h.us aI (k':=.close n') (s':=.got) gq aO (aP w L1) (by rw[hd];exact cj) (by rw[hK];exact aoh Im) (λ_=>rfl) rfl (λj hj=>by rw[hK]at hj;cases hj) (.inl rfl) (λe he y hy=> .inr (.inr ?_)) (λe he=> ?_) (λe he a=> ?_) rfl (λ_ _ _=>rfl) rfl rfl rfl
  ?_ (.inl m1) ?_ (zx iY (by rw[hK];exact .inl (by simp[GS.c9])))
 ·rw[nV e he]at hy;cases hy;refine⟨λdJ=> ?_,.inr (by rw[hK];show Im b o≠none;rw[kK];simp),rfl⟩;have e1:b=p.Wg:=dJ;have:=cO.2.2.2 o;rw[hK]at this;have e2:Im p.Wg o=none:=this;rw[<- e1,kK]at e2;cases e2
 ·rw[nV e he];exact hb
 ·rw[nV e he];simp[Tt]
 ·unfold Mode;have e1:sumTo gs.size (λi=>(upd K ic (.close n') i).cnt)=0:=by rw[lH K (.close n') GS.cnt (by rw[hK];rfl)];exact m4
  have e2:sumTo gs.size (λi=>(upd K ic (.close n') i).late)=0:=by rw[lH K (.close n') GS.late (by rw[hK];rfl)];exact m3
  simp only[e1,e2,bB];exact .inr (.inr (.inr (.inr (.inr (.inl ⟨m1,trivial,trivial,trivial,.inr rfl⟩)))))
 ·have hr:Rest p.Wg t K ic st:=h.out.2.2.1;rw[hs,m2]at hr;exact hr.got
theorem Inv.ahR(h:Inv P n0 W0 V gs w t K Im ic (some p) st)(aI:p.recv=true){n:Nat}{gi:SG}(aO:gs[ic]?=some gi)(hK:K ic=.close n)(jK:Jv P p.c (U4 t ic) gi):gE P n0 W0 V gs w sl t K Im ic (some p) st ic:=by
 obtain⟨s,hs,gq,iY,hm⟩:=h.mode aI;obtain⟨⟨nn,m1⟩,m2,m3,m4⟩:=hm.Qr (.inr (by rw[hK];rfl));obtain⟨hd,bQ,MH,g',aP,q,hO⟩:=jK;have lX:=aP w nn m1;have fK:∀e∈(#[⟨.obj p.c,false,true⟩,⟨.obj p.c,true,true⟩]:Array Uu),e=⟨.obj p.c,false,true⟩\/e=⟨.obj p.c,true,true⟩:=λe he=>by simpa using he
 have MM:∀j,0<j->j<gs.size->j≠ic->(K j).idx=none:=λj _ hj _=>by
  have hle:(K j).cnt<=sumTo gs.size λi=>(K i).cnt:=WG (f:=λi=>(K i).cnt) hj;exact GS.abG (by omega)
 have Ml:g'.status=.running\/g'.status=.finished:=ZS hO;have rV:p.c≠p.Wg:=h.phase.2.2.1;have L2:=h.low.1;have eu:Tc ic gi.frame.fn gi.frame.place #[⟨.obj p.c,false,true⟩,⟨.obj p.c,true,true⟩]=#[{g:=ic,fn:=gi.frame.fn,pos:=gi.frame.place,act:=.ofEvent ⟨.obj p.c,false,true⟩},{g:=ic,fn:=gi.frame.fn,pos:=gi.frame.place,act:=.close p.c}]:=by simp[Tc,Tt]
 have g1:=rO (t:=t) (show (#[({g:=ic,fn:=gi.frame.fn,pos:=gi.frame.place,act:=.ofEvent ⟨.obj p.c,false,true⟩}:Wi),{g:=ic,fn:=gi.frame.fn,pos:=gi.frame.place,act:=.close p.c}]:Uq)[1]?=some _ from rfl);have n3:∀op∈(#[({g:=ic,fn:=gi.frame.fn,pos:=gi.frame.place,act:=.ofEvent ⟨.obj p.c,false,true⟩}:Wi),{g:=ic,fn:=gi.frame.fn,pos:=gi.frame.place,act:=.close p.c}]:Uq),still op.act:=by
  intro op ay;simp only[TQ,SK,SZ,or_false]at ay;rcases ay with rfl|rfl<;>exact⟨by simp[Tt],by simp[Tt]⟩
 have aaH:∃n,({w with heap:=w.heap.setIfInBounds p.c (.chan 0 #[] true nn nn false)}:Tq).heap[p.c]?=some (.chan 0 #[] true n n false):=⟨nn,by simp[L2]⟩;refine h.us aI (k':=.gone q) (s':=.shut (t.size+1)) gq aO lX (by rw[hd];exact hO) (by rw[hK];exact Ib _) (λ_=>rfl) rfl (λj hj=>by rw[hK]at hj;cases hj) (.inl rfl) (λe he x hx=> .inl ?_) (λe he=> ?_) (λe he a=> ?_) (by simp) (λb hb _=>by simp[Ws,Ne.symm hb]) rfl rfl rfl
  ?_ (.inr ⟨MM,λg hg=>apS gq hg MH Ml aaH⟩) ?_ (zx iY (by rw[hK];exact .inl (by simp[GS.c9])))
 ·rcases fK e he with rfl|rfl
  ·cases hx;exact⟨rfl,rfl⟩
  ·cases hx
 ·rcases fK e he with rfl|rfl
  ·exact L2
  ·exact L2
 ·rcases fK e he with rfl|rfl<;>simp[Tt]
 ·unfold Mode;have e1:sumTo gs.size (λi=>(upd K ic (.gone q) i).cnt)=0:=by rw[lH K (.gone q) GS.cnt (by rw[hK];rfl)];exact m4
  have e2:sumTo gs.size (λi=>(upd K ic (.gone q) i).late)=0:=by rw[lH K (.gone q) GS.late (by rw[hK];rfl)];exact m3
  simp only[e1,e2,bB];obtain⟨n,hn⟩:=aaH;refine .inr (.inr (.inr (.inr (.inr (.inr ⟨⟨t.size+1,n,rfl,?_,?_,hn⟩,trivial,trivial,rfl⟩)))))
  ·rw[eu];exact am_ g1
  ·rw[eu];exact heard_new (k:=1) rfl rfl (by rw[uQ n3 (by simp)];exact hd)
 ·have hr:Rest p.Wg t K ic st:=h.out.2.2.1;rw[hs,m2]at hr;rw[eu];refine hr.app (λidx a ha hx=> .inr (.inr (Knows.hb_new hx (by omega) g1 rfl))) (λidx a hi ⟨op,ay,cY,_⟩ _=> .inr (.inr ?_));have hlt:idx<t.size+2:=by have:=TP cY;simpa using this
  have pO:op.g=ic:=by
   simp only[TQ,SK,SZ,or_false]at ay;rcases ay with rfl|rfl<;>rfl
  exact QL (g:=ic) (by simp[WE,cY,pO]) (by simp[WE,g1]) (by omega)
structure FW (P:SI)(n0:Nat)(W0:Tq)(V:View)(gs:Array SG)(w:Tq)(sl:Option (Nat×Nat))(t:Uq)(Im:cC)(ic:Nat)(p:Phase)(st:Option eA)(g:SG)(i:Nat):Prop where
 intro::
 met:∃gs' w' ops K' j sp S v kV Ow,runT P (crowd gs w sl) i=(.next (crowd gs' w' sl),ops)/\gs'.size=gs.size/\kD gs' (Ua g (.tuple #[v,.bool true]))/\p.Ss[j]?=some (sp::S)/\sp v kV Ow/\(∀b,V.own b≠none->Ow b=none)/\(∀b o,V.own b≠none->kV b o≠none->V.ah b o≠none)/\
  (∃w,Sat V w/\(∀b o x,kV b o=some x->w.cell? ⟨b,o,none⟩=some x)/\∀b x,Ow b=some x->w.heap[b]?=some x)/\
  Inv P n0 W0 (od V kV Ow (.recv p.c p.Wg (p.Ss.set j S))) gs' w' (t++ops) K' Im ic (some {p with Ss:=p.Ss.set j S}) st
theorem Inv.ar2(h:Inv P n0 W0 V gs w t K Im ic (some p) st)(aI:p.recv=true)(gI:V.deaf=0){g:SG}(hm:oy gs g p.c){i j:Nat}{gi:SG}{hh h':Ht}{Vi V₁:View}{c Wg:Nat}{sp:Spec}{S:List Spec}{v z:SP}{B:Nat->Bool}(hi:0<i)(aO:gs[i]?=some gi)
  (hK:K i=.work j hh Vi) (hg:dY Vi V₁) (hr:V₁.role=.work c Wg (sp::S)) (hd:V₁.deaf=0) (aP:stepG P false gi w=.comm gi #[scase c v z] true .send w #[])
  (qT:sp v V₁.ah (ma B V₁)) (hk:lL P h' (l7 B V₁ (.work c Wg S)) (Ua gi undef)):FW P n0 W0 V gs w sl t Im ic p st g i:=by
 have hlt:i<gs.size:=(SS.1 aO).1;have dl:=h.is i gi hi aO;simp only[hK,GS.is]at dl;obtain⟨bC,_,S',hS,jo⟩:=dl;rw[hg.role,jo]at hr;cases hr;have gX:(K i).cnt=1:=by rw[hK];rfl
 obtain⟨⟨n,gM⟩,ly⟩:=h.counted hi hlt gX;have eX:(i==0)=false:=by simp;omega
 obtain⟨g0,z0,h0,ln,iW,mX⟩:=hm;have hp:partners (gs.setIfInBounds i ph) p.c false=[(0,0)]:=by
  have GF:(gs.setIfInBounds i ph)[0]?=some (parked g0 #[rcase p.c z0] (.recv true)):=by rw[SX (by omega)];exact h0
  rw[partners_one GF (λm x hm hx=> ?_),offersAt_parked_recv]
  ·simp
  ·rcases Yj gs i m x hx with⟨_,rfl⟩|⟨_,jL⟩
   ·exact Zy _ _
   ·exact acS (h.is m x (by omega) jL) _
 have bQ:=crowd_send_meets (P:=P) (sl:=sl) (i:=i) aO (by rw[eX];exact aP) gM (by omega) h0 hp;rw[YE,al']at bQ;have mz:(K i).view Im=Vi:=by rw[hK];rfl
 have aY:((gs.setIfInBounds 0 (Ua g0 (recvd true v true))).setIfInBounds i (Ua gi undef)).size=gs.size:=by simp
 have bi:U4 t i=0:=by rw[bC,<- hg.deaf,hd]
 have Eh:Sat V₁ w:=by
  have:=h.core.sat i hlt;rw[show bL V Im K i=(K i).view Im by simp[bL];omega,mz]at this;exact hg.sat w this
 have M9:Sat V w:=by have:=h.core.sat 0 h.pos;rwa [show bL V Im K 0=V by simp[bL]]at this
 have vt:=h.met (gs':=(gs.setIfInBounds 0 (Ua g0 (recvd true v true))).setIfInBounds i (Ua gi undef)) (w':=w.setChan p.c 0 #[] false (n+1) (n+1) false) (gi:=gi) (h':=h') (V₁:=V₁) (S:=S) (sp:=sp) (B:=B) aI gI hi hlt (by rw[hK];rfl) (by rw[mz];exact hg) (by rw[hg.role,jo]) hd bi hS hk aY
  (by rw[Tb (by simpa using hlt)]) (λm hm g_=>by rw[SX (Ne.symm hm),SX (by omega)])
  (u:=Tc i gi.frame.fn gi.frame.place #[]++#[{g:=i,fn:=gi.frame.fn,pos:=gi.frame.place,act:=.send p.c n},{g:=0,fn:=g0.frame.fn,pos:=g0.frame.place,act:=.recv p.c n 0},
    {g:=i,fn:=gi.frame.fn,pos:=gi.frame.place,act:=.sendDone p.c n},{g:=0,fn:=g0.frame.fn,pos:=g0.frame.place,act:=.recvDone p.c n}]) (s:=n) (by simp only[Tc,Y8,if_true,Xz];rfl) ⟨rfl,rfl⟩ ⟨rfl,rfl⟩ ⟨rfl,rfl⟩ ⟨rfl,rfl⟩
  (by simp[Wl]) (λb hb=>by simp[Wl,Ws,Ne.symm hb]) ⟨n+1,by simp[Wl,h.low.1]⟩ rfl rfl rfl
 refine⟨_,_,_,_,j,sp,S,v,V₁.ah,ma B V₁,bQ,aY,⟨Ua g0 (recvd true v true),?_,rfl,?_,iW,mX⟩,hS,qT,vt.1,vt.2.1,⟨w,M9,Eh.ah,λb x e=> ?_⟩,vt.2.2⟩
 ·rw[SX (by omega),Tb h.pos]
 ·simp only[Ua,ln];rfl
 ·unfold ma at e;split at e
  ·exact Eh.own b x e
  ·cases e
theorem Inv.aq7(h:Inv P n0 W0 V gs w t K Im ic (some p) st)(aI:p.recv=true)(gI:V.deaf=0){g:SG}{z:SP}(hm:kD gs g)(aP:stepG P true g w=.comm g #[rcase p.c z] true (.recv true) w #[])
  (hw:∃i j h' V₁ V₂ g1 v z1,0<i/\i<gs.size/\K i=.oq j h' V₁ V₂ g1 v z1):FW P n0 W0 V gs w sl t Im ic p st g 0:=by
 obtain⟨g0,h0,yO,ln,iW,mX⟩:=hm;have ly:stepG P (0==0) g0 w=.comm g #[rcase p.c z] true (.recv true) w #[]:=by rw[<- aP];exact Xl ln iW mX w
 obtain⟨i0,j0,a0,a1,a2,a3,a4,a5,b0,b1,b2⟩:=hw;have alw:(K i0).cnt=1:=by rw[b2];rfl
 obtain⟨⟨n,gM⟩,HG⟩:=h.counted b0 b1 alw;have pY:gs[i0]?=some gs[i0]:=SJ b1;have eN:∀j k,(j,k)∈partners (gs.setIfInBounds 0 ph) p.c true->k=0/\j≠0/\∃gj vj zj Pm,gs[j]?=some (parked gj #[scase p.c vj zj] Pm):=by
  intro j k hjk;obtain⟨x,hx,hk⟩:=mem_partners.1 hjk;rcases Yj gs 0 j x hx with⟨_,rfl⟩|⟨vn,jL⟩
  ·rw[Zy]at hk;cases hk
  ·rcases GS.runs (h.is j x (by omega) jL)with hr|⟨hf,_⟩|⟨q,h',V1,V2,g1,v,z1,e⟩|⟨_,hb,ho⟩
   ·rw[U7 (by rw[hr];simp)]at hk;cases hk
   ·rw[U7 (by rw[hf];simp)]at hk;cases hk
   ·have:=h.is j x (by omega) jL;simp only[e,GS.is]at this;obtain⟨_,_,rfl,_⟩:=this;rw[ZR]at hk;simp at hk;exact⟨hk,vn,g1,v,z1,.send,jL⟩
   ·have:offersAt x p.c true=[]:=(by unfold offersAt;simp[hb,ho]);rw[this]at hk;cases hk
 have aH:partners (gs.setIfInBounds 0 ph) p.c true≠[]:=by
  intro e;have fK:(i0,0)∈partners (gs.setIfInBounds 0 ph) p.c true:=by
   have:=h.is i0 _ b0 pY;simp only[b2,GS.is]at this;obtain⟨_,_,jn,_⟩:=this;refine mem_partners.2 ⟨gs[i0],by rw[SX (by omega)];exact pY,?_⟩;rw[jn,ZR];simp
  rw[e]at fK;cases fK
 obtain⟨i,gj,vj,zj,Pm,d,eX,aO,bQ⟩:=crowd_recv_meets_some (P:=P) (sl:=sl) h0 ly gM aH eN;have hi:0<i:=by omega
 have hlt:i<gs.size:=(SS.1 aO).1;obtain⟨j,h',V₁,V₂,g1,v,z1,hK⟩:∃j h' V₁ V₂ g1 v z1,K i=.oq j h' V₁ V₂ g1 v z1:=by
  rcases GS.runs (h.is i _ hi aO)with hr|⟨hf,_⟩|x|⟨_,_,ho⟩
  ·cases hr
  ·cases hf
  ·exact x
  ·cases ho
 have dl:=h.is i _ hi aO;simp only[hK,GS.is]at dl;obtain⟨bC,hd,jn,hk,sp,S,B,hS,jo,qT,AW⟩:=dl;have efr:gj.frame=g1.frame/\gj.callers=g1.callers/\gj.dying=g1.dying/\vj=v/\zj=z1/\Pm=.send:=by
  simp only[parked,al_,Tm,Vb]at jn;obtain⟨e1,e2,_,e3,e4,e5⟩:=jn;simp[scase]at e4;exact⟨e1,e2,e3,e4.1,e4.2,e5⟩
 obtain⟨e1,e2,e3,rfl,rfl,rfl⟩:=efr;have esv:Ua gj undef=Ua g1 undef:=by simp[Ua,e1,e2,e3]
 rw[al',YE,esv]at bQ;subst AW;have mz:(K i).view Im=V₁:=by rw[hK];rfl
 have aY:((gs.setIfInBounds i (Ua g1 undef)).setIfInBounds 0 (Ua g (recvd true vj true))).size=gs.size:=by simp
 have Eh:Sat V₁ w:=by
  have:=h.core.sat i hlt;rwa [show bL V Im K i=(K i).view Im by simp[bL];omega,mz]at this
 have M9:Sat V w:=by have:=h.core.sat 0 h.pos;rwa [show bL V Im K 0=V by simp[bL]]at this
 have vt:=h.met (gs':=(gs.setIfInBounds i (Ua g1 undef)).setIfInBounds 0 (Ua g (recvd true vj true))) (w':=(w.at d).setChan p.c 0 #[] false (n+1) (n+1) false) (gi:=g1) (h':=h') (V₁:=V₁) (S:=S) (sp:=sp) (B:=B) aI gI hi hlt (by rw[hK];rfl) (by rw[mz];exact dY.refl _) jo hd bC hS hk aY
  (by rw[SX (by omega),Tb hlt]) (λm hm g_=>by rw[SX (by omega),SX (Ne.symm hm)])
  (u:=Tc 0 g0.frame.fn g0.frame.place #[]++#[{g:=i,fn:=gj.frame.fn,pos:=gj.frame.place,act:=.send p.c n},{g:=0,fn:=g.frame.fn,pos:=g.frame.place,act:=.recv p.c n 0},
    {g:=i,fn:=gj.frame.fn,pos:=gj.frame.place,act:=.sendDone p.c n},{g:=0,fn:=g.frame.fn,pos:=g.frame.place,act:=.recvDone p.c n}]) (s:=n) (by simp only[Tc,Y8,if_true,Xz];rfl) ⟨rfl,rfl⟩ ⟨rfl,rfl⟩ ⟨rfl,rfl⟩ ⟨rfl,rfl⟩
  (by simp[Wl,World.at]) (λb hb=>by simp[Wl,World.at,Ws,Ne.symm hb]) ⟨n+1,by simp[Wl,World.at,h.low.1]⟩ rfl rfl rfl
 refine⟨_,_,_,_,j,sp,S,vj,V₁.ah,ma B V₁,bQ,aY,⟨Ua g (recvd true vj true),?_,rfl,rfl,rfl,rfl⟩,hS,qT,vt.1,vt.2.1,⟨w,M9,Eh.ah,λb x e=> ?_⟩,vt.2.2⟩
 ·rw[Tb (by simpa using h.pos)]
 ·unfold ma at e;split at e
  ·exact Eh.own b x e
  ·cases e
end
section
variable {P:SI}{n0:Nat}{W0:Tq}{V:View}{gs gs':Array SG}{w w':Tq}{sl:Option (Nat×Nat)}{t:Uq}{K:Nat->GS}{Im:cC}{ic:Nat}{ph:Option Phase}{p:Phase}{st st':Option eA}
theorem Inv.ut(h:Inv P n0 W0 V gs w t K Im ic (some p) st){i n:Nat}{gi:SG}{Stop:Nat->SG->Prop}{mk:Nat->GS}(hi:0<i)(aO:gs[i]?=some gi)(hK:K i=mk n)(cj:cT P Stop n (U4 t i) gi)
  (mu:∀n d g,cT P Stop n d g->(mk n).is P p.c p.Wg Im p.Ss d g) (dJ:∀n m,(mk n).shape=(mk m).shape) (Np:∀n m,(mk n).view Im=(mk m).view Im) (M6:∀n,rC (mk n).c9 (mk (n+1)).c9) (Bq:∀d g,Stop d g->g.status=.running)
  (hgo:Stop (U4 t i) gi->gE P n0 W0 V gs w sl t K Im ic (some p) st i):gE P n0 W0 V gs w sl t K Im ic (some p) st i:=by
 cases n with
 |zero=>exact hgo cj
 |succ n=>
  rcases cj with hs|⟨hr,g',es,hm,aP,hs⟩
  ·exact hgo hs
  ·exact h.slip (k':=mk n) hi aO (aP w) hm (mu _ _ _ hs) (λx=>by rw[cT.running Bq hs]at x;cases x) (by rw[hK];exact dJ _ _) (by rw[hK];exact Np _ _) (λ_=>cT.running Bq hs) (by rw[hK];exact M6 n)
theorem Inv.adU(h:Inv P n0 W0 V gs w t K Im ic (some p) st){i n:Nat}{gi:SG}{Stop:Nat->SG->Prop}{mk:Nat->GS}(hi:0<i)(aO:gs[i]?=some gi)(hK:K i=mk n)(hW:∃x y,WgAt P p.Wg w x y)(cj:im P p.Wg Stop n (U4 t i) gi)
  (mu:∀n d g,im P p.Wg Stop n d g->(mk n).is P p.c p.Wg Im p.Ss d g) (dJ:∀n m,(mk n).shape=(mk m).shape) (Np:∀n m,(mk n).view Im=(mk m).view Im) (M6:∀n,rC (mk n).c9 (mk (n+1)).c9) (Bq:∀d g,Stop d g->g.status=.running)
  (hgo:Stop (U4 t i) gi->gE P n0 W0 V gs w sl t K Im ic (some p) st i):gE P n0 W0 V gs w sl t K Im ic (some p) st i:=by
 cases n with
 |zero=>exact hgo cj
 |succ n=>
  rcases cj with hs|⟨hr,g',es,hm,aP,hs⟩
  ·exact hgo hs
  ·exact h.slip (k':=mk n) hi aO (aP w _ _ hW.choose_spec.choose_spec) hm (mu _ _ _ hs) (λx=>by rw[im.running Bq hs]at x;cases x) (by rw[hK];exact dJ _ _) (by rw[hK];exact Np _ _) (λ_=>im.running Bq hs) (by rw[hK];exact M6 n)
theorem Inv.other(h:Inv P n0 W0 V gs w t K Im ic ph st){g:SG}(pN:kD gs g\/∃p,ph=some p/\p.recv=true/\V.deaf=0/\oy gs g p.c){i:Nat}{gi:SG}(hi:0<i)(aO:gs[i]?=some gi)(bQ:gi.status=.running):
  gE P n0 W0 V gs w sl t K Im ic ph st i\/∃p,ph=some p/\FW P n0 W0 V gs w sl t Im ic p st g i/\oy gs g p.c:=by
 have hlt:i<gs.size:=(SS.1 aO).1;have dl:=h.out.1 i gi hi aO;have gone:∀q,K i=.gone q->Zf P q (U4 t i) gi->gE P n0 W0 V gs w sl t K Im ic ph st i:=by
  intro q hK hq;cases q with
  |zero=>rw[hq.1]at bQ;cases bQ
  |succ q=>
   rcases hq with⟨hf,_⟩|⟨_,g',es,hm,aP,t_⟩
   ·rw[hf]at bQ;cases bQ
   ·refine h.slip (k':=.gone q) hi aO (aP w) hm ?_ (λx=>by rcases t_.status with e|e<;>rw[e]at x<;>cases x) (by rw[hK];rfl) (by rw[hK];rfl) (λx=>by rw[hK]at x;rcases x with x|x<;>cases x) (by rw[hK];exact .inr ⟨rfl,.inr ⟨rfl,Uy _⟩⟩);cases ph with
    |none=>exact⟨q,rfl,t_⟩
    |some p=>exact t_
 cases ph with
 |none=>
  obtain⟨q,hK,hq⟩:=dl;exact .inl (gone q hK hq)
 |some p=>
  have fi:(K i).is P p.c p.Wg Im p.Ss (U4 t i) gi:=dl;have qR:(K i).idx=none->(∀q,K i≠ .gone q)->p.recv=true:=λh1 h2=>by
   cases aI:p.recv with
   |true=>rfl
   |false=>
    have hx:=h.phase.2.2.2.2.2.2.2.2.2;rw[if_neg (by rw[aI];simp)]at hx;rcases hx.2.2.2.1 i hi hlt with x|⟨q,x⟩
    ·rw[h1]at x;cases x
    ·exact absurd x (h2 q)
  cases hK:K i with
  |gone q=>rw[hK]at fi;exact .inl (gone q hK fi)
  |oq j h' V1 V2 g0 v z=>
   rw[hK]at fi;obtain⟨_,_,rfl,_⟩:=fi;cases bQ
  |work j hh Vi=>
   rw[hK]at fi;obtain⟨hd,Ns,S,hS,jo⟩:=fi;have mz:bL V Im K i=Vi:=(by simp[bL,hK,GS.view];omega);have fB:Sat Vi w:=(by have:=h.core.sat i hlt;rwa [mz]at this);cases Ns with
   |step G' W' E' V' hs hg h1 h2 h3=>
    exact .inl (h.aeY hi aO hK (h1 w (hg.sat w fB)) (di.sC hg (h2 w (hg.sat w fB))) (h3 w (hg.sat w fB)) (.mk _ w))
   |send c Wg sp S1 v z B hs hg hr cQ ho h1 h2 h3=>
    have er:nm.work p.c p.Wg S=.work c Wg (sp::S1):=(by rw[<- jo,<- hg.role,hr]);cases er;rcases pN with hm|⟨p',Bi,aI,gI,hm⟩
    ·exact .inl (h.auc hm hi aO hK hg hr cQ (h1 w (hg.sat w fB)) h2 h3)
    ·cases Bi;exact .inr ⟨p,rfl,h.ar2 aI gI hm hi aO hK hg hr cQ (h1 w (hg.sat w fB)) h2 h3,hm⟩
   |done c Wg hg hr cQ h1=>
    have er:nm.work p.c p.Wg S=.work c Wg []:=(by rw[<- jo,<- hg.role,hr]);cases er;refine .inl (h.release ?_ hi aO hK hg hr cQ h1);cases aI:p.recv with
    |true=>rfl
    |false=>
     have hx:=h.phase.2.2.2.2.2.2.2.2.2;rw[if_neg (by rw[aI];simp)]at hx;exact absurd rfl (hx.2.2.2.2.1 [] (S6 hS))
   |slip c Wg hs hg hr h1 h3=>
    have er:nm.work p.c p.Wg S=.work c Wg []:=(by rw[<- jo,<- hg.role,hr]);cases er;have aI:p.recv=true:=by
     cases aI:p.recv with
     |true=>rfl
     |false=>
      have hx:=h.phase.2.2.2.2.2.2.2.2.2;rw[if_neg (by rw[aI];simp)]at hx;exact absurd rfl (hx.2.2.2.2.1 [] (S6 hS))
    obtain⟨s,hW⟩:=h.ahY aI hlt (by rw[hK];rfl);exact .inl (h.aeY hi aO hK (h1 w s (hg.sat w fB) hW) (di.sC hg (di.idle (hg.sat w fB))) h3 (Co.mk (λ_=>_) w))
  |add n=>
   rw[hK]at fi;have aI:=qR (by rw[hK];rfl) (λq=>by rw[hK];simp);exact .inl (h.ut (mk:=.add) hi aO hK fi (λ_ _ _ x=>x) (λ_ _=>rfl) (λ_ _=>rfl) (λn=> .inr ⟨rfl,.inr ⟨rfl,Uy _⟩⟩) (λ_ _ x=>x.2.1) (λhs=>h.af7 aI hi aO hK hs))
  |load n=>
   rw[hK]at fi;have aI:=qR (by rw[hK];rfl) (λq=>by rw[hK];simp);exact .inl (h.ut (mk:=.load) hi aO hK fi (λ_ _ _ x=>x) (λ_ _=>rfl) (λ_ _=>rfl) (λn=> .inr ⟨rfl,.inr ⟨rfl,Uy _⟩⟩) (λ_ _ x=>x.2.1) (λhs=>h.aow aI hi aO hK hs))
  |store n=>
   rw[hK]at fi;have aI:=qR (by rw[hK];rfl) (λq=>by rw[hK];simp);exact .inl (h.ut (mk:=.store) hi aO hK fi (λ_ _ _ x=>x) (λ_ _=>rfl) (λ_ _=>rfl) (λn=> .inr ⟨rfl,.inr ⟨rfl,Uy _⟩⟩) (λ_ _ x=>x.2.1) (λhs=>h.asX aI hi aO hK hs))
  |mI n=>
   rw[hK]at fi;have aI:=qR (by rw[hK];rfl) (λq=>by rw[hK];simp);exact .inl (h.ut (mk:=.mI) hi aO hK fi (λ_ _ _ x=>x) (λ_ _=>rfl) (λ_ _=>rfl) (λn=> .inr ⟨rfl,.inr ⟨rfl,Uy _⟩⟩) (λ_ _ x=>x.2.1) (λhs=>h.ar1 aI hi aO hK hs))
  |head k n=>
   rw[hK]at fi;have aI:=qR (by rw[hK];rfl) (λq=>by rw[hK];simp);have fW:i=ic:=h.sL hi (by rw[hK];rfl);exact .inl (h.ut (mk:=.head k) hi aO hK fi (λ_ _ _ x=>x) (λ_ _=>rfl) (λ_ _=>rfl) (λn=> .inr ⟨rfl,.inr ⟨rfl,Uy _⟩⟩) (λ_ _ x=>aaP x) (λhs=>by subst fW;exact h.alS aI aO hK hs))
  |ml v n=>
   rw[hK]at fi;have aI:=qR (by rw[hK];rfl) (λq=>by rw[hK];simp);have fW:i=ic:=h.sL hi (by rw[hK];rfl);exact .inl (h.ut (mk:=.ml v) hi aO hK fi (λ_ _ _ x=>x) (λ_ _=>rfl) (λ_ _=>rfl) (λn=> .inr ⟨rfl,.inr ⟨rfl,Uy _⟩⟩) (λ_ _ x=>x.2.1) (λhs=>by subst fW;exact h.ahI aI aO hK hs))
  |said n=>
   rw[hK]at fi;have aI:=qR (by rw[hK];rfl) (λq=>by rw[hK];simp);have fW:i=ic:=h.sL hi (by rw[hK];rfl);exact .inl (h.adU (mk:=.said) hi aO hK (h.Qe aI (n:=n) (.inr (by rw[<- fW];exact hK))) fi (λ_ _ _ x=>x) (λ_ _=>rfl) (λ_ _=>rfl) (λn=> .inr ⟨rfl,.inr ⟨rfl,Uy _⟩⟩) (λ_ _ x=>x.2.1) (λhs=>by subst fW;exact h.arH aI aO hK hs))
  |iq n=>
   rw[hK]at fi;have aI:=qR (by rw[hK];rfl) (λq=>by rw[hK];simp);have fW:i=ic:=h.sL hi (by rw[hK];rfl);rcases fi with fi|⟨_,g1,rfl,_⟩
   ·exact .inl (h.ut (mk:=.iq) hi aO hK fi (λ_ _ _ x=> .inl x) (λ_ _=>rfl) (λ_ _=>rfl) (λn=> .inr ⟨rfl,.inr ⟨rfl,Uy _⟩⟩) (λ_ _ x=>x.2.1) (λhs=>by subst fW;exact h.ahZ aI aO hK hs))
   ·cases bQ
  |last n=>
   rw[hK]at fi;have aI:=qR (by rw[hK];rfl) (λq=>by rw[hK];simp);have fW:i=ic:=h.sL hi (by rw[hK];rfl);exact .inl (h.ut (mk:=.last) hi aO hK fi (λ_ _ _ x=>x) (λ_ _=>rfl) (λ_ _=>rfl) (λn=> .inr ⟨rfl,.inr ⟨rfl,Uy _⟩⟩) (λ_ _ x=>x.2.1) (λhs=>by subst fW;exact h.anQ aI aO hK hs))
  |acq n=>
   rw[hK]at fi;have aI:=qR (by rw[hK];rfl) (λq=>by rw[hK];simp);have fW:i=ic:=h.sL hi (by rw[hK];rfl);exact .inl (h.adU (mk:=.acq) hi aO hK (h.Qe aI (n:=n) (.inl (by rw[<- fW];exact hK))) fi (λ_ _ _ x=>x) (λ_ _=>rfl) (λ_ _=>rfl) (λn=> .inr ⟨rfl,.inr ⟨rfl,Uy _⟩⟩) (λ_ _ x=>x.2.1) (λhs=>by subst fW;exact h.af2 aI aO hK hs))
  |look n=>
   rw[hK]at fi;have aI:=qR (by rw[hK];rfl) (λq=>by rw[hK];simp);have fW:i=ic:=h.sL hi (by rw[hK];rfl);exact .inl (h.ut (mk:=.look) hi aO hK fi (λ_ _ _ x=>x) (λ_ _=>rfl) (λ_ _=>rfl) (λn=> .inr ⟨rfl,.inr ⟨rfl,Uy _⟩⟩) (λ_ _ x=>x.2.1) (λhs=>by subst fW;exact h.aox aI aO hK hs))
  |close n=>
   rw[hK]at fi;have aI:=qR (by rw[hK];rfl) (λq=>by rw[hK];simp);have fW:i=ic:=h.sL hi (by rw[hK];rfl);exact .inl (h.ut (mk:=.close) hi aO hK fi (λ_ _ _ x=>x) (λ_ _=>rfl) (λ_ _=>rfl) (λn=> .inr ⟨rfl,.inr ⟨rfl,Uy _⟩⟩) (λ_ _ x=>x.2.1) (λhs=>by subst fW;exact h.ahR aI aO hK hs))
theorem Inv.awake(h:Inv P n0 W0 V gs w t K Im ic ph st){g:SG}(pN:kD gs g\/∃p,ph=some p/\p.recv=true/\V.deaf=0/\oy gs g p.c):∀x∈gs,awake x:=by
 intro x hx;obtain⟨i,hi⟩:=YN.1 hx;rcases UL i with rfl|eX
 ·rcases pN with⟨g0,h0,h1,_⟩|⟨p,_,_,_,g0,z,h0,_⟩
  ·rw[hi]at h0;cases h0;intro s;rw[h1];simp
  ·rw[hi]at h0;cases h0;intro s;simp[parked]
 ·have dl:=h.out.1 i x eX hi;intro s;cases ph with
  |none=>
   obtain⟨q,_,hq⟩:=dl;rcases hq.status with e|e<;>rw[e]<;>simp
  |some p=>
   rcases GS.runs (show (K i).is P p.c p.Wg Im p.Ss (U4 t i) x from dl)with e|⟨e,_⟩|⟨j,h',V1,V2,g1,v,z,e⟩|⟨_,e,_⟩
   ·rw[e];simp
   ·rw[e];simp
   ·have fi:(K i).is P p.c p.Wg Im p.Ss (U4 t i) x:=dl;rw[e]at fi;obtain⟨_,_,rfl,_⟩:=fi;simp[parked]
   ·rw[e];simp
end
def Ok (P:SI)(Post:SP->Tq->Prop)(m:avS)(t:Uq):Prop:=
 ∃M last o w' t',runNT P (M+1) m t=(.ended o w',t')/\runN P M m=.next last/\step P last=.ended o w'/\W7 P Post last o w' t'
section
variable {P:SI}{Post:SP->Tq->Prop}
theorem Ok.step{m m':avS}{t:Uq}{ops:Array Wi}(hs:stepT P m=(.next m',ops))(h:Ok P Post m' (t++ops)):Ok P Post m t:=by
 obtain⟨M,last,o,w',t',h1,h2,h3,h4⟩:=h;refine⟨M+1,last,o,w',t',?_,?_,h3,h4⟩
 ·rw[runNT,hs];exact h1
 ·have:aj' P m=.next m':=by unfold aj';rw[hs]
  rw[runN,this];exact h2
theorem Ok.end{m:avS}{t:Uq}{o:Outcome}{w':Tq}{ops:Array Wi}(hs:stepT P m=(.ended o w',ops))(h:W7 P Post m o w' (t++ops)):Ok P Post m t:=by
 refine⟨0,m,o,w',t++ops,?_,rfl,?_,h⟩
 ·simp[runNT,hs]
 ·unfold aj';rw[hs]
end
section
variable {P:SI}{n0:Nat}{W0:Tq}{V:View}{gs gs':Array SG}{w w':Tq}{sl:Option (Nat×Nat)}{t:Uq}{K:Nat->GS}{Im:cC}{ic:Nat}{ph:Option Phase}{p:Phase}{st st':Option eA}
theorem Inv.draw(h:Inv P n0 W0 V gs w t K Im ic ph st)(d:Nat):Inv P n0 W0 V gs (w.at d) t K Im ic ph st:=
 let⟨a,b,c,e⟩:=h.out
 Inv.mk' h.pos h.k0 h.d0 a (b.draw d) c (by cases ph<;>exact e)
theorem Pt{f:Nat->Nat}:∀{N:Nat},0<sumTo N f->∃i,i<N/\0<f i
 |0,h=>by simp[sumTo]at h
 |N+1,h=>by
  by_cases hN:0<f N
  ·exact⟨N,by omega,hN⟩
  ·obtain⟨i,hi,hf⟩:=Pt (N:=N) (f:=f) (by rw[sumTo]at h;omega);exact⟨i,by omega,hf⟩
theorem Inv.asf(h:Inv P n0 W0 V gs w t K Im ic (some p) st)(aI:p.recv=true)(ho:Ah w p.c)(tM:Calm gs):∃i gi,0<i/\gs[i]?=some gi/\gi.status=.running:=by
 obtain⟨s,hs,gq,iY,hm⟩:=h.mode aI;have h0:=h.k0;have Dh:gs[ic]?=some gs[ic]:=SJ iY;have avm:(K ic).is P p.c p.Wg Im p.Ss (U4 t ic) gs[ic]:=h.is ic _ gq Dh;have run:∀i x,0<i->gs[i]?=some x->(∀q,K i≠ .gone q)->(∀n,K i≠ .iq n)->x.status=.running:=by
  intro i x hi hx h1 h2;rcases GS.runs (show (K i).is P p.c p.Wg Im p.Ss (U4 t i) x from h.is i x hi hx)with e|⟨_,q,e⟩|⟨j,h',V1,V2,g1,v,z,e⟩|⟨⟨n,e⟩,_⟩
  ·exact e
  ·exact absurd e (h1 q)
  ·have cE:=h.is i x hi hx;simp only[e,GS.is]at cE;obtain⟨_,_,jn,_⟩:=cE;have:=tM i x hi hx (by rw[jn];rfl);rw[jn]at this;cases this
  ·exact absurd e (h2 n)
 have NF:(∀q,K ic≠ .gone q)->(∀n,K ic≠ .iq n)->∃i gi,0<i/\gs[i]?=some gi/\gi.status=.running:=λa b=>⟨ic,_,gq,Dh,run ic _ gq Dh a b⟩;have other:∀i,i<gs.size->(K i).cnt=1\/(K i).late=1->∃i gi,0<i/\gs[i]?=some gi/\gi.status=.running:=by
  intro i hi hc;have eX:0<i:=by
   rcases UL i with rfl|x
   ·rw[h0]at hc;rcases hc with c|c<;>cases c
   ·exact x
  exact⟨i,_,eX,SJ hi,run i _ eX (SJ hi) (λq e=>by rw[e]at hc;rcases hc with c|c<;>cases c) (λq e=>by rw[e]at hc;rcases hc with c|c<;>cases c)⟩
 have one:∀i,0<(K i).cnt->(K i).cnt=1:=λi hi=>by cases e:K i<;>rw[e]at hi<;>first|rfl|exact absurd hi (by simp[GS.cnt])
 have apz:∀i,0<(K i).late->(K i).late=1:=λi hi=>by cases e:K i<;>rw[e]at hi<;>first|rfl|exact absurd hi (by simp[GS.late])
 unfold Mode at hm;rcases hm with m|m|m|m|m|m|m
 ·rcases m.2.2.2.2.2 with⟨k,e,_⟩|⟨v,e,_⟩<;>exact NF (λq x=>by rw[x]at e;cases e) (λq x=>by rw[x]at e;cases e)
 ·obtain⟨i,hi,hc⟩:=Pt (N:=gs.size) (f:=λi=>(K i).cnt) (by have:=m.2.2.2.1;omega);exact other i hi (.inl (one i hc))
 ·obtain⟨i,hi,hc⟩:=Pt (N:=gs.size) (f:=λi=>(K i).late) (by have:=m.2.2.1;omega);exact other i hi (.inr (apz i hc))
 ·exact⟨ic,_,gq,Dh,m.2.2.2.2.2.1 _ Dh⟩
 ·rcases m.2.2.2.2.2 with e|e<;>exact NF (λq x=>by rw[x]at e;cases e) (λq x=>by rw[x]at e;cases e)
 ·rcases m.2.2.2.2 with e|e<;>exact NF (λq x=>by rw[x]at e;cases e) (λq x=>by rw[x]at e;cases e)
 ·obtain⟨⟨_,n,_,_,_,a_⟩,_⟩:=m;obtain⟨n',ho⟩:=ho;rw[a_]at ho;simp at ho
theorem sQ(V':View)(Im:cC)(K:Nat->GS):bL V' Im K=upd (bL V Im K) 0 V':=by
 funext j;by_cases hj:j=0
 ·subst hj;rw[bB];simp[bL]
 ·rw[bf _ _ hj];simp[bL,hj]
theorem kT:bL V Im K 0=V:=by simp[bL]
def wn (r:nm)(ph:Option Phase):Prop:=match r with
 |.plain=>ph=none
 |.fork c Wg Ss=>ph=some ⟨c,Wg,Ss,false⟩
 |.recv c Wg Ss=>ph=some ⟨c,Wg,Ss,true⟩
 |.work .. =>False
theorem Inv.aoJ(h:Inv P n0 W0 V gs w t K Im ic ph st){V':View}(g:dY V V')(hr:wn V.role ph):Inv P n0 W0 V' gs w t K Im ic ph st:=by
 obtain⟨dl,hc,mZ,gN⟩:=h.out;refine Inv.mk' h.pos h.k0 (by rw[g.deaf];exact h.d0) dl ?_ mZ ?_
 ·rw[sQ (V:=V)];exact hc.ghost h.pos (by rw[kT];exact g)
 ·cases ph with
  |none=>exact gN
  |some p=>
   obtain⟨a1,a2,a3,a4,a5,a6,a7,a8,a9,b9⟩:=gN;refine⟨a1,a2,a3,a4,a5,a6,a7,a8,a9,?_⟩;split
   ·rename_i aI;rw[if_pos aI]at b9;have b:jz p V:=⟨b9.1.1,b9.1.2.1,b9.1.2.2.1,b9.1.2.2.2⟩;have b':=b.ghost g;exact⟨⟨b'.1,b'.2.1,b'.2.2.1,b'.2.2.2⟩,b9.2⟩
   ·rename_i aI;rw[if_neg aI]at b9;refine⟨g.chan _ _ ?_ b9.1,b9.2⟩;unfold wn at hr;split at hr
    ·cases hr
    ·cases hr;rename_i e;rw[e];rfl
    ·cases hr;exact absurd rfl aI
    ·exact hr.elim
theorem Inv.acm(h:Inv P n0 W0 V gs w t K Im ic ph st){g0 g':SG}{es:Array Uu}{V':View}(h0:gs[0]?=some g0)(s:di V w V' w' es)(hr:wn V.role ph):
  Inv P n0 W0 V' ((gs.map (woken P g0 g' w')).setIfInBounds 0 g') w' (t++Tc 0 g0.frame.fn g0.frame.place es) K Im ic ph st:=by
 obtain⟨dl,hc,mZ,gN⟩:=h.out;have aY:((gs.map (woken P g0 g' w')).setIfInBounds 0 g').size=gs.size:=by simp
 have Ej:∀op∈Tc 0 g0.frame.fn g0.frame.place es,op.g=0:=λop ay=>by obtain⟨e,_,rfl⟩:=TU ay;rfl
 have eF:∀{u:Uq}{idx:Nat}{op:Wi},(t++u)[idx]?=some op->op.g=0->Wq (t++u) 0 idx:=λ{u idx op} a b=>by have:=Zp a;rwa [b]at this
 have aaG:∀p,ph=some p->w'.heap[p.c]?=w.heap[p.c]?:=by
  rintro p rfl
  obtain⟨a1,a2,a3,a4,a5,a6,a7,a8,a9,b9⟩:=gN;by_cases aI:p.recv=true
  ·rw[if_pos aI]at b9;exact s.frame _ a4 b9.1.1
  ·rw[if_neg aI]at b9;have dg:Sat V w:=(by have:=hc.sat 0 h.pos;rwa [kT]at this);have ff:V.role.chan=some p.c:=by
    unfold wn at hr;split at hr
    ·cases hr
    ·cases hr;rename_i e;rw[e];rfl
    ·cases hr;exact absurd rfl aI
    ·exact hr.elim
   rw[s.sat.own _ _ (s.chan _ _ ff b9.1),dg.own _ _ b9.1]
 refine Inv.mk' (by rw[aY];exact h.pos) h.k0 (by rw[Deaf_own,s.deaf,h.d0]) (λj x hj hx=> ?_) ?_ ?_ ?_
 ·rcases getElem?_next h.pos hx with⟨e,_⟩|⟨_,y,hy,rfl⟩
  ·omega
  ·rw[av7 t (g:=j) (g':=0) (by omega) _ Ej];have Et:=dl j y hj hy;have Mw:j<gs.size:=(SS.1 hy).1;cases ph with
   |none=>
    obtain⟨q,hq,pZ⟩:=Et;exact⟨q,hq,by rw[woken_quitsD pZ];exact pZ⟩
   |some p=>
    refine abL ?_ Et;rcases h.opens rfl with⟨n,x⟩|x
    ·exact .inl ⟨n,by rw[aaG p rfl];exact x⟩
    ·exact .inr (x.1 j hj Mw)
 ·rw[aY,sQ (V:=V)];refine hc.step h.pos (by rw[kT];exact s) (λe he x hx hs=> ?_) g0.frame.fn g0.frame.place;cases ph with
  |none=>exact hs.elim
  |some p=>
   obtain⟨a1,a2,a3,a4,a5,a6,a7,a8,a9,b9⟩:=gN;have jU:=KL (s.fq e he) hx;by_cases aI:p.recv=true
   ·exfalso;rw[if_pos aI]at b9;have b:jz p V:=⟨b9.1.1,b9.1.2.1,b9.1.2.2.1,b9.1.2.2.2⟩;rcases jU.1 with y|⟨y,_⟩|y
    ·exact b.BH y.rd hs
    ·exact b.BH y hs
    ·exact y (adS a4 a5 hs)
   ·rw[if_neg aI]at b9;have jo:V.role.chan=some p.c/\V.role.group=some p.Wg:=by
     unfold wn at hr;split at hr
     ·cases hr
     ·cases hr;rename_i e;rw[e];exact⟨rfl,rfl⟩
     ·cases hr;exact absurd rfl aI
     ·exact hr.elim
    have kj:nw (some p) gs.size ic K 0:=by
     show jf p gs.size ic K 0;unfold jf;rw[if_neg aI];exact .inl rfl
    have D6:x.kind≠ .plain:=by
     intro hk;cases hl:x.loc with
     |cell a=>rw[hl]at hs;exact jU.2.2 _ a jo.2 hl hs hk
     |obj r=>rw[hl]at hs;exact jU.2.1 _ jo.1 (by rw[hl];exact congrArg _ hs)
     |_=>rw[hl]at hs;exact hs.elim
    cases hk:x.kind with
    |plain=>exact absurd hk D6
    |atomic=>exact .inl ⟨rfl,kj⟩
    |said=>exact .inr ⟨rfl,b9.2.1.symm,kj⟩
 ·have xb:∀idx a,t.size<=idx->(∃op∈Tc 0 g0.frame.fn g0.frame.place es,(t++Tc 0 g0.frame.fn g0.frame.place es)[idx]?=some op/\op.act.touch?=some a)->Wq (t++Tc 0 g0.frame.fn g0.frame.place es) 0 idx:=λidx a _ ⟨op,ay,hi,_⟩=>eF hi (Ej op ay);cases st with
  |none=>
   intro idx a ha hm;rcases B_ ha with gp|⟨hi,x⟩
   ·obtain⟨op,ay,_⟩:=U6 gp;rcases mZ idx a gp hm with x|⟨x,y⟩|⟨_,z,_⟩
    ·exact .inl (x.app _)
    ·exact .inr (.inl ⟨x,λz=>y ((Wu (TP ay)).1 z)⟩)
    ·cases z
   ·exact .inl (xb idx a hi x)
  |some s'=>
   exact mZ.app (λidx a ha hx=> .inr (hx.app (by obtain⟨op,ay,_⟩:=U6 ha;exact TP ay) λj _ _ hj=> .inl hj)) (λidx a hi x _=> .inl (xb idx a hi x))
 ·cases ph with
  |none=>exact gN
  |some p=>
   obtain⟨a1,a2,a3,a4,a5,a6,a7,a8,a9,b9⟩:=gN;refine⟨a1,a2,a3,Tg a4 s.size,Tg a5 s.size,a6,a7,λj j' m b1 b2 b3 b4=>a8 j j' m b1 (aY▸b2) b3 (aY▸b4),λj S b1 b2=>by rw[aY];exact a9 j S b1 b2,?_⟩;split
   ·rename_i aI;rw[if_pos aI]at b9;obtain⟨c1,c2,c3,s',c4,c5⟩:=b9;have b:jz p V:=⟨c1.1,c1.2.1,c1.2.2.1,c1.2.2.2⟩;have b':=b.step s a4 a5;refine⟨⟨b'.1,b'.2.1,b'.2.2.1,b'.2.2.2⟩,c2,by rw[aY];exact c3,s',c4,?_⟩;rw[aY];refine c5.keep (λ_=>rfl) (aaG p rfl) (s.frame _ a5 b.2.2.1) λsf g hg=> ?_;rcases getElem?_next h.pos hg with⟨e,_⟩|⟨_,y,hy,rfl⟩
    ·omega
    ·rw[Yt (sf y hy)];exact sf y hy
   ·rename_i aI;rw[if_neg aI]at b9;have ff:V.role.chan=some p.c:=by
     unfold wn at hr;split at hr
     ·cases hr
     ·cases hr;rename_i e;rw[e];rfl
     ·cases hr;exact absurd rfl aI
     ·exact hr.elim
    exact⟨s.chan _ _ ff b9.1,b9.2.1,b9.2.2.1,by rw[aY];exact b9.2.2.2.1,b9.2.2.2.2.1,by rw[aY];exact b9.2.2.2.2.2⟩
end
theorem aeH{x y:Wi}{k:Nat}(hx:x.act=.go k)(hy:y.act=.start):∀op∈(#[x,y]:Uq),op.act.touch?=none/\still op.act/\(∀B,op.act.low B)/\∀a,op.act≠ .mark (.release a):=by
 intro op ay;simp only[TQ,SK,SZ,or_false]at ay;rcases ay with rfl|rfl
 ·rw[hx];exact⟨rfl,⟨by simp,by simp⟩,λ_=>trivial,by simp⟩
 ·rw[hy];exact⟨rfl,⟨by simp,by simp⟩,λ_=>trivial,by simp⟩
theorem Rg{t:Uq}{N:Nat}(h:∀op∈t,op.g<N):U4 t N=0:=by
 have key:∀k,k<=t.size->t.deaf N k=0:=by
  intro k;induction k with
  |zero=>intro _;rfl
  |succ k ih=>
   intro hk;have hy:t[k]?=some t[k]:=SJ (by omega);have aH:¬t[k].g=N:=(by have:=h t[k] (X8 _);omega);rw[ah_ hy,ih (by omega)];unfold deafStep;split<;>simp[aH]
 exact key _ (SO _)
section
variable {VV:Nat->View}{N:Nat}{w:Tq}{t:Uq}{Sh:Loc->Prop}{act act':Nat->Prop}{ic kN n0:Nat}{W0:Tq}
theorem Core.spawn(h:Core VV N w t Sh act ic n0 W0)(h0:0<N)(bi:U4 t 0=0){x y:Wi}(hx:x.g=0/\x.act=.go N)(hy:y.g=N/\y.act=.start){U:View}(hi:U.ah=(VV 0).ah)(ho:U.own=λ_=>none)
  (kj:∀i,act' i->act i\/(i=N/\act 0)) (fW:kN=ic\/(kN=N/\ic=0)):Core (upd VV N U) (N+1) w (t++#[x,y]) Sh act' kN n0 W0:=by
 have jI:=aeH hx.2 hy.2;have hdN:U4 t N=0:=Rg h.ti.gs;have hk:∀{idx},Wq t 0 idx->Wq (t++#[x,y]) N idx:=λ{idx} jL=>fork_knows hx hy bi hdN jL;have hsU:Sat U w:=⟨λb o v e=>(h.sat 0 h0).ah b o v (by rw[<- hi];exact e),λb x e=>by rw[ho]at e;cases e⟩;refine⟨λi cE=> ?_,λa b ha hb gJ=> ?_,?_,h.tape,h.os,h.out,h.old,λi cE b hb=> ?_,h.n0⟩
 ·by_cases fz:i=N
  ·subst fz;rw[bB];exact hsU
  ·rw[bf _ _ fz];exact h.sat i (by omega)
 ·by_cases haN:a=N
  ·subst haN;rw[bB];intro q hq;rw[ho]at hq;exact absurd rfl hq
  ·rw[bf _ _ haN];by_cases GW:b=N
   ·subst GW;rw[bB];intro q hq;refine⟨by rw[ho],λo hu=> ?_⟩;rw[hi]at hu;by_cases AY:a=0
    ·subst AY;exact hu
    ·exact(h.dP a 0 (by omega) h0 AY q hq).2 o hu
   ·rw[bf _ _ GW];exact h.dP a b (by omega) (by omega) gJ
 ·refine h.ti.mute (λop ay=>(jI op ay).1) (λop ay=>(jI op ay).2.2.1 _) (λop ay=> ?_) (by omega) (λop ay=>(jI op ay).2.2.2) (λi cE l hl idx a ha gK sk=> ?_) (λi cE l hl idx a ha gK=> ?_) (λidx a ha dJ=>⟨λhp i cE=> ?_,λhp=> ?_⟩)
  ·simp only[TQ,SK,SZ,or_false]at ay;rcases ay with rfl|rfl
   ·omega
   ·omega
  ·obtain⟨_,cP,mq⟩:=hl;by_cases fz:i=N
   ·subst fz;rw[bB]at cP;have:gT (VV 0) l:=by
     cases l with
     |cell a'=>rcases cP with z|z;exact absurd (by rw[ho]) z;exact .inr (by rw[<- hi];exact z)
     |obj r=>exact absurd (by rw[ho]) cP
     |_=>exact cP.elim
    exact hk (h.ti.kr 0 h0 l ⟨h0,this,mq⟩ idx a ha gK sk)
   ·rw[bf _ _ fz]at cP;exact(h.ti.kr i (by omega) l ⟨by omega,cP,mq⟩ idx a ha gK sk).app _
  ·obtain⟨_,cP,mq⟩:=hl;by_cases fz:i=N
   ·subst fz;rw[bB]at cP;exfalso;cases l with
    |cell a'=>exact cP.1 (by rw[ho])
    |obj r=>exact cP (by rw[ho])
    |_=>exact cP.elim
   ·rw[bf _ _ fz]at cP;exact(h.ti.kw i (by omega) l ⟨by omega,cP,mq⟩ idx a ha gK).app _
  ·have:=h.ti.sp idx a ha dJ;rcases kj i cE with z|⟨rfl,z⟩
   ·exact(this.1 hp i z).app _
   ·exact hk (this.1 hp 0 z)
  ·have:=h.ti.sp idx a ha dJ;rcases fW with rfl|⟨rfl,rfl⟩
   ·exact(this.2 hp).app _
   ·exact hk (this.2 hp)
 ·by_cases fz:i=N
  ·subst fz;rw[bB,ho]
  ·rw[bf _ _ fz];exact h.ju i (by omega) b hb
end
section
variable {P:SI}{n0:Nat}{W0:Tq}{V:View}{gs gs':Array SG}{w w':Tq}{sl:Option (Nat×Nat)}{t:Uq}{K:Nat->GS}{Im:cC}{ic:Nat}{ph:Option Phase}{p:Phase}{st st':Option eA}
theorem GS.aeT{k:GS}(h:k.nG=false)(Im kV:cC):k.view kV=k.view Im:=by cases k<;>first|rfl|cases h
theorem GS.anq{k:GS}{c Wg d:Nat}{Im kV:cC}{Ss P_:List (List Spec)}{g:SG}(h:k.nG=false)(hS:∀(j:Nat) S,Ss[j]?=some S->P_[j]?=some S)(hk:k.is P c Wg Im Ss d g):k.is P c Wg kV P_ d g:=by
 cases k with
 |work j hh V=>obtain⟨a,b,S,e,f⟩:=hk;exact⟨a,b,S,hS _ _ e,f⟩
 |oq j hh V V' g0 v z=>obtain⟨a,b,c,d,sp,S,B,e,f⟩:=hk;exact⟨a,b,c,d,sp,S,B,hS _ _ e,f⟩
 |gone q=>exact hk
 |add n=>exact hk
 |load n=>exact hk
 |store n=>exact hk
 |mI n=>exact hk
 |head k n=>cases h
 |ml k n=>cases h
 |said n=>cases h
 |iq n=>cases h
 |last n=>cases h
 |acq n=>cases h
 |look n=>cases h
 |close n=>cases h
theorem Inv.spawn(h:Inv P n0 W0 V gs w t K Im ic (some p) st)(aI:p.recv=false)(gI:V.deaf=0){g' child:SG}{x y:Wi}(hx:x.g=0/\x.act=.go gs.size)(hy:y.g=gs.size/\y.act=.start){V':View}{p':Phase}{kV:cC}{kN:Nat}{k':GS}(hc:p'.c=p.c)(AX:p'.Wg=p.Wg)
  (qL:mN V' V) (vb:V'.deaf=V.deaf) (qW:(k'.view kV).ah=V.ah) (hvo:(k'.view kV).own=λ_=>none) (hSs:∀(j:Nat) S,p.Ss[j]?=some S->p'.Ss[j]?=some S) (DF:k'.is P p.c p.Wg kV p'.Ss 0 child)
  (kj:∀i,i<gs.size->jf p' (gs.size+1) kN (upd K gs.size k') i->jf p gs.size ic K i) (fW:kN=ic\/kN=gs.size)
  (D_:Ai P n0 V' ((gs.setIfInBounds 0 g').push child) w (t++#[x,y]) (upd K gs.size k') kV kN (some p') (some .early)):
  Inv P n0 W0 V' ((gs.setIfInBounds 0 g').push child) w (t++#[x,y]) (upd K gs.size k') kV kN (some p') (some .early):=by
 obtain⟨dl,gY,mZ,gN⟩:=h.out;obtain⟨a1,a2,a3,a4,a5,a6,a7,a8,a9,b9⟩:=gN;rw[if_neg (by rw[aI];simp)]at b9;obtain⟨c1,c2,c3,c4,c5,c6⟩:=b9;have aY:((gs.setIfInBounds 0 g').push child).size=gs.size+1:=by simp
 have jI:=aeH hx.2 hy.2;have bC:∀i,U4 (t++#[x,y]) i=U4 t i:=λi=>Deaf_still λop ay=>(jI op ay).2.1;have Ea:=h.pos;have bi:U4 t 0=0:=by rw[h.d0,gI]
 have a_:∀i,0<i->(K i).nG=false:=λi hi=>by
  cases e:(K i).nG with
  |false=>rfl
  |true=>have:=h.sL hi e;omega
 have ak9:nw (some p) gs.size ic K 0:=by
  show jf p gs.size ic K 0;unfold jf;rw[if_neg (by rw[aI];simp)];exact .inl rfl
 have yN:=gY.spawn (act':=nw (some p') (gs.size+1) kN (upd K gs.size k')) (kN:=kN) Ea bi hx hy (U:=k'.view kV) (by rw[kT];exact qW) hvo (λi hi=>by
   by_cases fz:i<gs.size
   ·exact .inl (kj i fz hi)
   ·refine .inr ⟨?_,ak9⟩;have cE:jf p' (gs.size+1) kN (upd K gs.size k') i:=hi;unfold jf at cE;split at cE<;>omega) (fW.imp id λe=>⟨e,c2⟩)
 have alB:=(yN.less (i:=0) (V':=V') (by omega) (by rw[bf _ _ (by omega),kT];exact qL)).congr (FZ:=bL V' kV (upd K gs.size k')) λi hi=>by
  by_cases eX:i=0
  ·subst eX;rw[bB];simp[bL]
  ·rw[bf _ _ eX];by_cases fz:i=gs.size
   ·subst fz;rw[bB];simp[bL,eX,bB]
   ·rw[bf _ _ fz];simp only[bL,eX,if_false,bf _ _ fz];exact GS.aeT (a_ i (by omega)) _ _
 refine Inv.mk' (by omega) (by rw[bf _ _ (by omega)];exact h.k0) (by rw[bC,vb];exact h.d0) (λi z hi hz=> ?_) ?_ ?_ D_
 ·rw[bC];show (upd K gs.size k' i).is P p'.c p'.Wg kV p'.Ss _ z;rw[hc,AX];by_cases fz:i=gs.size
  ·subst fz;rw[bB,Rg gY.ti.gs];have:z=child:=by
    rw[show gs.size=(gs.setIfInBounds 0 g').size by simp]at hz;rw[Array.getElem?_push_size]at hz;exact(Wb hz).symm
   rw[this];exact DF
  ·have avk:i<gs.size:=(by have:=(SS.1 hz).1;omega);rw[bf _ _ fz];rw[Xp,if_neg (by simp;omega),SX (by omega)]at hz;exact GS.anq (a_ i hi) hSs (dl i z hi hz)
 ·rw[aY];have e:sH (some p')=sH (some p):=by show rE p'.c p'.Wg=rE p.c p.Wg;rw[hc,AX]
  rw[e];exact alB
 ·have hr:Rest p.Wg t K ic st:=mZ;rw[c3]at hr;show Rest p'.Wg _ _ _ _;rw[AX];intro idx a ha hm;have gp:=Ca (λop ay=>(jI op ay).1) ha;obtain⟨op,ay,_⟩:=U6 gp;have hlt:=TP ay;rcases hr idx a gp hm with z|⟨z1,z2⟩|⟨s,hs,jL⟩
  ·exact .inl (z.app _)
  ·exact .inr (.inl ⟨z1,λz=>z2 ((Wu hlt).1 z)⟩)
  ·cases hs;obtain⟨i,hg,hi,hz⟩:=jL;have fz:i<gs.size:=by
    obtain⟨op',bm,pO⟩:=Ts.1 hg;rw[<- pO];exact gY.ti.gs op' (X7 bm)
   refine .inr (.inr ⟨.early,rfl,i,by rw[g?_old hlt];exact hg,hi,?_⟩);rcases hz with hz|hz|⟨r,hz,hle⟩
   ·exact .inl (by rw[bf _ _ (by omega)];exact hz)
   ·omega
   ·exact .inr (.inr ⟨r,hz.app,hle⟩)
theorem Sat.NI{c:Nat}{a:Nat}{x:Bool}{y z:Nat}{u:Bool}{Ge:Array SP}(h:Sat V w)(hc:w.heap[c]?=some (.chan a Ge x y z u))(o:Nat):V.ah c o=none:=by
 cases e:V.ah c o with
 |none=>rfl
 |some v=>have:=h.ah c o v e;simp[UC,hc]at this
theorem Inv.acA(h:Inv P n0 W0 V gs w t K Im ic (some p) st)(aI:p.recv=false){i:Nat}(hi:0<i):(K i).nG=false:=by
 have hx:=h.phase.2.2.2.2.2.2.2.2.2;rw[if_neg (by rw[aI];simp)]at hx;cases e:(K i).nG with
 |false=>rfl
 |true=>have:=h.sL hi e;have:=hx.2.1;omega
theorem Inv.GC(h:Inv P n0 W0 V gs w t K Im ic (some p) st)(aI:p.recv=false)(gI:V.deaf=0){g' child:SG}{x y:Wi}(hx:x.g=0/\x.act=.go gs.size)(hy:y.g=gs.size/\y.act=.start){hh:Ht}{sp:Spec}{S:List Spec}(hlen:p.Ss.length<4)(oM:∀o,V.ah p.Wg o=none)
  (DF:lL P hh {ah:=V.ah,own:=λ_=>none,deaf:=0,role:=.work p.c p.Wg (sp::S)} child):
  Inv P n0 W0 {V with role:=.fork p.c p.Wg (p.Ss++[sp::S])} ((gs.setIfInBounds 0 g').push child) w (t++#[x,y]) (upd K gs.size (.work p.Ss.length hh {ah:=V.ah,own:=λ_=>none,deaf:=0,role:=.work p.c p.Wg (sp::S)})) Im ic
   (some {p with Ss:=p.Ss++[sp::S]}) (some .early):=by
 obtain⟨dl,gY,mZ,gN⟩:=h.out;obtain⟨a1,a2,a3,a4,a5,a6,a7,a8,a9,b9⟩:=gN;rw[if_neg (by rw[aI];simp)]at b9;obtain⟨c1,c2,c3,c4,c5,c6⟩:=b9;have aY:((gs.setIfInBounds 0 g').push child).size=gs.size+1:=by simp
 have dg:Sat V w:=by have:=gY.sat 0 h.pos;rwa [kT]at this
 have A4:=dg.NI (dg.own _ _ c1);have cY:∀i j,0<i->i<gs.size->(K i).idx=some j->j<p.Ss.length:=λi j hi hlt e=>by
  have hik:=dl i _ hi (SJ hlt);have Mq:(K i).is P p.c p.Wg Im p.Ss (U4 t i) gs[i]:=hik;cases lh:K i<;>rw[lh]at e Mq<;>simp[GS.idx]at e
  ·subst e;obtain⟨_,_,S,e,_⟩:=Mq;exact(SL.1 e).1
  ·subst e;obtain⟨_,_,_,_,_,_,_,e,_⟩:=Mq;exact(SL.1 e).1
 refine h.spawn aI gI hx hy rfl rfl ⟨λ_=> .inr rfl,λ_ _=> .inr rfl,λ_ _ _=>rfl⟩ rfl rfl rfl (λj S' e=> ?_) ⟨rfl,DF,sp::S,by simp,rfl⟩ (λi hi kj=> ?_) (.inl rfl) ?_
 ·show (p.Ss++[sp::S])[j]?=some S';rw[S0 (SL.1 e).1];exact e
 ·unfold jf at kj⊢;rw[if_neg (by show ¬p.recv=true;rw[aI];simp)]at kj;rw[if_neg (by rw[aI];simp)];rw[bf _ _ (by omega)]at kj;exact kj.imp id λz=>⟨hi,z.2⟩
 ·refine⟨a1,a2,a3,a4,a5,by simp only[SQ,Un,UA];omega,λi hi=> ?_,λi i' j b1 b2 b3 b4 b5 b6=> ?_,λj S' b1 b2=> ?_,?_⟩
  ·by_cases fz:i=gs.size
   ·subst fz;rw[bB];exact⟨rfl,A4,rfl,oM,λe=>by cases e⟩
   ·rw[bf _ _ fz];exact a7 i hi
  ·rw[aY]at b2 b4;by_cases e1:i=gs.size
   ·by_cases e2:i'=gs.size
    ·omega
    ·rw[bf _ _ e2]at b6;have:=cY i' j b3 (by omega) b6;subst e1;rw[bB]at b5;simp only[GS.idx,Tm]at b5;omega
   ·rw[bf _ _ e1]at b5;by_cases e2:i'=gs.size
    ·have:=cY i j b1 (by omega) b5;subst e2;rw[bB]at b6;simp only[GS.idx,Tm]at b6;omega
    ·rw[bf _ _ e2]at b6;exact a8 i i' j b1 (by omega) b3 (by omega) b5 b6
  ·rw[aY];by_cases hj:j<p.Ss.length
   ·have:p.Ss[j]?=some S':=by
     have J7:(p.Ss++[sp::S])[j]?=some S':=b1;rwa [S0 hj]at J7
    obtain⟨i,e1,e2,e3⟩:=a9 j S' this b2;exact⟨i,e1,by omega,by rw[bf _ _ (by omega)];exact e3⟩
   ·have iI:j=p.Ss.length:=by
     have:=(SL.1 (show (p.Ss++[sp::S])[j]?=some S' from b1)).1;simp at this;omega
    exact⟨gs.size,h.pos,by omega,by rw[bB,iI];rfl⟩
  ·show if p.recv=true then _ else _;rw[if_neg (by rw[aI];simp)];refine⟨c1,c2,rfl,λi b1 b2=> ?_,λS' hS'=> ?_,?_⟩
   ·rw[aY]at b2;by_cases fz:i=gs.size
    ·subst fz;rw[bB];exact .inl rfl
    ·rw[bf _ _ fz];exact c4 i b1 (by omega)
   ·rcases SV.1 hS' with z|z
    ·exact c5 S' z
    ·simp at z;subst z;simp
   ·rw[aY,sumTo,bB,SQ,<- c6];rw[Vv (g:=λi=>(K i).cnt) λi hi=>by rw[bf _ _ (by omega)]];rfl
theorem Inv.GB(h:Inv P n0 W0 V gs w t K Im ic (some p) st)(aI:p.recv=false)(gI:V.deaf=0){g' child:SG}{x y:Wi}(hx:x.g=0/\x.act=.go gs.size)(hy:y.g=gs.size/\y.act=.start){n:Nat}
  (AX:V.own p.Wg=some (wgBlock P (((p.Ss.length:Nat):Int)* KK) 0)) (oM:∀o,V.ah p.Wg o=none) (DF:cT P (eM P V.ah p.c p.Wg 5) n 0 child):
  Inv P n0 W0 {V with own:=λb=>if b=p.c\/b=p.Wg then none else V.own b,role:=.recv p.c p.Wg p.Ss} ((gs.setIfInBounds 0 g').push child) w (t++#[x,y]) (upd K gs.size (.head 5 n)) V.ah gs.size (some {p with recv:=true}) (some .early):=by
 obtain⟨dl,gY,mZ,gN⟩:=h.out;obtain⟨a1,a2,a3,a4,a5,a6,a7,a8,a9,b9⟩:=gN;rw[if_neg (by rw[aI];simp)]at b9;obtain⟨c1,c2,c3,c4,c5,c6⟩:=b9;have aY:((gs.setIfInBounds 0 g').push child).size=gs.size+1:=by simp
 have dg:Sat V w:=by have:=gY.sat 0 h.pos;rwa [kT]at this
 have A4:=dg.NI (dg.own _ _ c1);have Ea:=h.pos;refine h.spawn aI gI hx hy rfl rfl ⟨λb=> ?_,λ_ _=> .inr rfl,λ_ _ _=>rfl⟩ rfl rfl rfl (λj S' e=>e) DF (λi hi kj=> ?_) (.inr rfl) ?_
 ·by_cases e:b=p.c\/b=p.Wg
  ·exact .inl (by simp only[e,if_true])
  ·exact .inr (by simp only[e,if_false])
 ·unfold jf at kj⊢;rw[if_pos rfl]at kj;rw[if_neg (by rw[aI];simp)];rw[bf _ _ (by omega)]at kj;obtain⟨z1,_,z2⟩:=kj;rcases c4 i z1 hi with z|⟨q,z⟩
  ·exact .inr ⟨hi,z⟩
  ·exfalso;rw[z]at z2;rcases z2 with z2|z2|z2|z2
   ·cases z2
   ·omega
   ·cases z2
   ·cases z2
 ·refine⟨a1,a2,a3,a4,a5,a6,λi hi=> ?_,λi i' j b1 b2 b3 b4 b5 b6=> ?_,λj S' b1 b2=> ?_,?_⟩
  ·by_cases fz:i=gs.size
   ·subst fz;rw[bB];exact⟨rfl,A4,rfl,oM,λ_=>rfl⟩
   ·rw[bf _ _ fz,GS.aeT (h.acA aI hi) Im];have:=a7 i hi;exact⟨this.1,this.2.1,this.2.2.1,this.2.2.2.1,λe=>by rw[h.acA aI hi]at e;cases e⟩
  ·rw[aY]at b2 b4;by_cases e1:i=gs.size
   ·subst e1;rw[bB]at b5;cases b5
   ·by_cases e2:i'=gs.size
    ·subst e2;rw[bB]at b6;cases b6
    ·rw[bf _ _ e1]at b5;rw[bf _ _ e2]at b6;exact a8 i i' j b1 (by omega) b3 (by omega) b5 b6
  ·obtain⟨i,e1,e2,e3⟩:=a9 j S' b1 b2;exact⟨i,e1,by omega,by rw[bf _ _ (by omega)];exact e3⟩
  ·show if true=true then _ else _;rw[if_pos rfl];refine⟨⟨by simp,A4,by simp,oM⟩,by omega,by rw[aY];omega,.early,rfl,?_⟩;rw[aY];have e1:sumTo (gs.size+1) (λi=>(upd K gs.size (.head 5 n) i).cnt)=p.Ss.length:=by
    rw[sumTo,bB,<- c6];rw[Vv (g:=λi=>(K i).cnt) λi hi=>by rw[bf _ _ (by omega)]];rfl
   have e2:sumTo (gs.size+1) (λi=>(upd K gs.size (.head 5 n) i).late)=0:=by
    have hz:∀N,sumTo N (λ_=>0)=0:=λN=>(by induction N with|zero=>rfl|succ N ih=>simp[sumTo,ih]);rw[sumTo,bB];rw[Vv (g:=λ_=>0) λi hi=> ?_,hz]
    ·rfl
    ·rw[bf _ _ (by omega)];rcases UL i with rfl|eX
     ·rw[h.k0];rfl
     ·rcases c4 i eX hi with z|⟨q,z⟩
      ·cases lh:K i<;>rw[lh]at z<;>first|rfl|cases z
      ·rw[z];rfl
   unfold Mode;simp only[e1,e2,bB];exact .inl ⟨⟨0,dg.own _ _ c1⟩,trivial,trivial,a6,dg.own _ _ AX,.inl ⟨5,rfl,by omega⟩⟩
theorem Inv.begin(h:Inv P n0 W0 V gs w t K Im ic none st){c Wg:Nat}(aH:c≠Wg)(hc:V.own c=some (.chan 0 #[] false 0 0 false)) (hW:V.own Wg≠none) (oM:∀o,V.ah Wg o=none):
  Inv P n0 W0 {V with role:=.fork c Wg []} gs w t (λi=>if i<gs.size then K i else .gone 0) Im 0 (some ⟨c,Wg,[],false⟩) (some .early):=by
 obtain⟨dl,gY,mZ,gN⟩:=h.out;have dg:Sat V w:=by have:=gY.sat 0 h.pos;rwa [kT]at this
 have A4:=dg.NI (dg.own _ _ hc);have tR:∀i,(∃q,(if i<gs.size then K i else .gone 0)=GS.gone q):=λi=>by
  by_cases hi:i<gs.size
  ·rw[if_pos hi];rcases UL i with rfl|eX
   ·exact⟨0,h.k0⟩
   ·obtain⟨q,hq,_⟩:=dl i _ eX (SJ hi);exact⟨q,hq⟩
  ·rw[if_neg hi];exact⟨0,rfl⟩
 have iy:∀{b x},V.own b=some x->n0<=b/\b<w.heap.size:=λ{b x} e=>by
  refine⟨?_,dg.lt e⟩;apply Nat.le_of_not_lt;intro hb;have:=gY.ju 0 h.pos b hb;rw[kT,e]at this;cases this
 obtain⟨xW,hxW⟩:∃x,V.own Wg=some x:=by cases e:V.own Wg with|none=>exact absurd e hW|some x=>exact⟨x,rfl⟩
 have mz:∀i,0<i->((if i<gs.size then K i else .gone 0).view Im)=noView:=λi _=>by obtain⟨q,e⟩:=tR i;rw[e];rfl
 refine Inv.mk' h.pos (by rw[if_pos h.pos];exact h.k0) h.d0 (λi x hi hx=> ?_) ?_ ?_ ?_
 ·have hlt:i<gs.size:=(SS.1 hx).1;obtain⟨q,hq,hy⟩:=dl i x hi hx;show (if i<gs.size then K i else .gone 0).is P c Wg Im [] _ x;rw[if_pos hlt,hq];exact hy
 ·have bu:Core (bL {V with role:=.fork c Wg []} Im (λi=>if i<gs.size then K i else .gone 0)) gs.size w t (sH none) (nw none gs.size ic K) ic n0 W0:=by
   refine(gY.role (i:=0) (V':={V with role:=.fork c Wg []}) h.pos (by rw[kT]) (by rw[kT])).congr λi hi=> ?_;by_cases eX:i=0
   ·subst eX;rw[bB];simp[bL]
   ·rw[bf _ _ eX];simp[bL,eX,hi]
  refine⟨bu.sat,bu.dP,?_,bu.tape,bu.os,bu.out,bu.old,bu.ju,bu.n0⟩;refine bu.ti.weaken (SO _) (λi l _ x=> .inl ⟨x.1,x.2.1,λz=>z.elim⟩) (λi l _ x=>⟨x.1,x.2.1,λz=>z.elim⟩) (λidx a ha dJ=> ?_);have hk:Wq t 0 idx:=by
   have zi:jP V a.loc:=by
    have Br:rE c Wg a.loc:=dJ;cases hl:a.loc with
    |cell ad=>rw[hl]at Br;have e:ad.block=Wg:=Br;exact⟨by rw[e];exact hW,by rw[e];exact oM _⟩
    |obj r=>rw[hl]at Br;have e:r=c:=Br;show V.own r≠none;rw[e,hc];simp
    |_=>rw[hl]at Br;exact Br.elim
   exact gY.ti.kw 0 h.pos a.loc ⟨h.pos,by rw[kT];exact zi,λz=>z.elim⟩ idx a ha rfl
  refine⟨λ_ i hi=> ?_,λ_=>hk⟩;have cE:jf ⟨c,Wg,[],false⟩ gs.size 0 (λi=>if i<gs.size then K i else .gone 0) i:=hi;unfold jf at cE;rw[if_neg (by simp)]at cE;rcases cE with rfl|⟨_,e⟩
  ·exact hk
  ·obtain⟨q,eq⟩:=tR i;simp only[eq]at e;cases e
 ·have aP:st=none:=gN;intro idx a ha hm;rcases mZ idx a ha hm with z|z|⟨s,e,_⟩
  ·exact .inl z
  ·exact .inr (.inl z)
  ·rw[aP]at e;cases e
 ·refine⟨(iy hc).1,(iy hxW).1,aH,(iy hc).2,(iy hxW).2,by simp,λi hi=> ?_,λi i' j _ _ _ _ b5=> ?_,λj S b1=>by simp at b1,?_⟩
  ·rw[mz i hi];exact⟨rfl,λ_=>rfl,rfl,λ_=>rfl,λe=>by obtain⟨q,eq⟩:=tR i;simp only[eq]at e;cases e⟩
  ·obtain⟨q,eq⟩:=tR i;simp only[eq]at b5;cases b5
  ·show if false=true then _ else _;rw[if_neg (by simp)];refine⟨hc,rfl,rfl,λi _ _=> .inr (tR i),by simp,?_⟩;have hz:∀N,sumTo N (λ_=>0)=0:=λN=>(by induction N with|zero=>rfl|succ N ih=>simp[sumTo,ih]);rw[Vv (g:=λ_=>0) λi _=>by obtain⟨q,eq⟩:=tR i;show (if i<gs.size then K i else GS.gone 0).cnt=0;rw[eq];rfl];exact hz _
theorem Inv.asb(h:Inv P n0 W0 V gs w t K Im ic (some p) st)(aI:p.recv=true)(gI:V.deaf=0){g0 g':SG}{n:Nat}(a_:w.heap[p.c]?=some (.chan 0 #[] true n n false)) {y:Wi} (hy:y.g=0/\y.act=.recvClosed p.c):
  (∀S∈p.Ss,S=[])/\Inv P n0 W0 {V with role:=.plain} (gs.setIfInBounds 0 g') w (t++#[y]) K Im ic none none:=by
 obtain⟨dl,gY,mZ,gN⟩:=h.out;obtain⟨a1,a2,a3,a4,a5,a6,a7,a8,a9,b9⟩:=gN;rw[if_pos aI]at b9;obtain⟨c1,c2,c3,s,c4,c5⟩:=b9;have yZ:(∃pp n,s=.shut pp/\t.act? pp=some (.close p.c)/\t.heard pp/\w.heap[p.c]?=some (.chan 0 #[] true n n false))/\(sumTo gs.size λi=>(K i).late)=0/\(sumTo gs.size λi=>(K i).cnt)=0/\(K ic).shape=.gone 0:=by
  have no:¬∃n,w.heap[p.c]?=some (.chan 0 #[] false n n false):=λ⟨m,e⟩=>by rw[a_]at e;simp at e
  unfold Mode at c5;rcases c5 with m|m|m|m|m|m|m
  ·exact absurd m.1 no
  ·exact absurd m.1 no
  ·exact absurd m.1 no
  ·exact absurd m.1 no
  ·exact absurd m.1 no
  ·exact absurd m.1 no
  ·exact m
 obtain⟨⟨pp,n',rfl,m1,m2,_⟩,m3,m4,m5⟩:=yZ;have tR:∀i,i<gs.size->∃q,K i=.gone q:=λi hi=>by
  have e1:(K i).cnt<=sumTo gs.size λi=>(K i).cnt:=WG (f:=λi=>(K i).cnt) hi;have e2:(K i).late<=sumTo gs.size λi=>(K i).late:=WG (f:=λi=>(K i).late) hi;rcases UL i with rfl|eX
  ·exact⟨0,h.k0⟩
  ·have hc:=h.sL (i:=i) eX;have z1:(K i).cnt=0:=(by omega);have z2:(K i).late=0:=(by omega);clear e1 e2;cases lh:K i<;>rw[lh]at z1 z2 hc<;>first
    |exact⟨_,rfl⟩
    |(exfalso;simp[GS.cnt]at z1;done)
    |(exfalso;simp[GS.late]at z2;done)
    |(exfalso;have:=hc rfl;subst this;rw[lh]at m5;cases m5)
 have bV:jz p V:=⟨c1.1,c1.2.1,c1.2.2.1,c1.2.2.2⟩;have bi:U4 t 0=0:=by rw[h.d0,gI]
 have n3:∀op∈(#[y]:Uq),op.act.touch?=none/\still op.act/\op.act.low w.heap.size/\(∀a,op.act≠ .mark (.release a))/\op.g=0:=by
  intro op ay;simp only[TQ,SK,SZ,or_false]at ay;subst ay;rw[hy.2];exact⟨rfl,⟨by simp,by simp⟩,a4,by simp,hy.1⟩
 have bC:∀i,U4 (t++#[y]) i=U4 t i:=λi=>Deaf_still λop ay=>(n3 op ay).2.1;have aY:(gs.setIfInBounds 0 g').size=gs.size:=by simp
 refine⟨λS hS=> ?_,?_⟩
 ·obtain⟨j,hj⟩:=UY.1 hS;apply Tv;intro aH;obtain⟨i,e1,e2,e3⟩:=a9 j S hj aH;obtain⟨q,e⟩:=tR i e2;rw[e]at e3;cases e3
 ·refine Inv.mk' (by rw[aY];exact h.pos) h.k0 (by rw[bC];exact h.d0) (λi x hi hx=> ?_) ?_ ?_ rfl
  ·rw[SX (by omega)]at hx;have hlt:i<gs.size:=(SS.1 hx).1;obtain⟨q,e⟩:=tR i hlt;have hk:(K i).is P p.c p.Wg Im p.Ss (U4 t i) x:=dl i x hi hx;rw[e]at hk;rw[bC];exact⟨q,e,hk⟩
  ·rw[aY];have h1:=(gY.role (i:=0) (V':={V with role:=.plain}) h.pos (by rw[kT]) (by rw[kT])).congr (FZ:=bL {V with role:=.plain} Im K) λi hi=>by
    by_cases eX:i=0
    ·subst eX;rw[bB];simp[bL]
    ·rw[bf _ _ eX];simp[bL,eX]
   have acD:∀i l,i<gs.size->gT (bL {V with role:=.plain} Im K i) l->¬rE p.c p.Wg l:=λi l hi hl=>by
    by_cases eX:i=0
    ·subst eX;have b':jz p (bL {V with role:=.plain} Im K 0):=(by simp only[bL,if_true];exact bV);exact b'.BH hl
    ·obtain⟨q,e⟩:=tR i hi;have:bL {V with role:=.plain} Im K i=noView:=(by simp only[bL,eX,if_false,e];rfl);rw[this]at hl;exact ahn.BH hl
   refine⟨h1.sat,h1.dP,?_,h1.tape,h1.os,h1.out,h1.old,h1.ju,h1.n0⟩;have xg:=h1.ti.mute (u:=#[y]) (N':=gs.size) (rd':=λi l=>i<gs.size/\gT (bL {V with role:=.plain} Im K i) l/\¬sH none l) (wr':=λi l=>i<gs.size/\jP (bL {V with role:=.plain} Im K i) l/\¬sH none l) (act':=nw (some p) gs.size ic K) (kN:=ic)
    (λop ay=>(n3 op ay).1) (λop ay=>(n3 op ay).2.2.1) (λop ay=>by rw[(n3 op ay).2.2.2.2];exact h.pos) (SO _) (λop ay=>(n3 op ay).2.2.2.1)
    (λi hi l hl idx a ha gK hw=>(h1.ti.kr i hi l ⟨hl.1,hl.2.1,acD i l hi hl.2.1⟩ idx a ha gK hw).app _) (λi hi l hl idx a ha gK=>(h1.ti.kw i hi l ⟨hl.1,hl.2.1,acD i l hi hl.2.1.rd⟩ idx a ha gK).app _)
    (λidx a ha dJ=>⟨λhp i hi=>((h1.ti.sp idx a ha dJ).1 hp i hi).app _,λhp=>((h1.ti.sp idx a ha dJ).2 hp).app _⟩)
   exact xg.weaken (SO _) (λ_ _ _ x=> .inl x) (λ_ _ _ x=>x) (λidx a _ hx=>hx.elim)
  ·have hr:Rest p.Wg t K ic st:=mZ;rw[c4]at hr;intro idx a ha hm;have gp:=Ca (λop ay=>(n3 op ay).1) ha;obtain⟨op,ay,_⟩:=U6 gp;rcases hr idx a gp hm with z|⟨z1,z2⟩|⟨s,hs,hx⟩
   ·exact .inl (z.app _)
   ·exact .inr (.inl ⟨z1,λz=>z2 ((Wu (TP ay)).1 z)⟩)
   ·cases hs;exact .inl (ahS m1 m2 hy bi hx)
theorem Inv.aoK(h:Inv P n0 W0 V gs w t K Im ic (some p) st)(aI:p.recv=true)(x:SG):Inv P n0 W0 V (gs.setIfInBounds 0 x) w t K Im ic (some p) st:=by
 obtain⟨dl,gY,mZ,gN⟩:=h.out;obtain⟨a1,a2,a3,a4,a5,a6,a7,a8,a9,b9⟩:=gN;have aY:(gs.setIfInBounds 0 x).size=gs.size:=by simp
 rw[if_pos aI]at b9;obtain⟨c1,c2,c3,s,c4,c5⟩:=b9;refine Inv.mk' (by rw[aY];exact h.pos) h.k0 h.d0 (λi z hi hz=> ?_) (by rw[aY];exact gY) mZ ⟨a1,a2,a3,a4,a5,a6,a7,by rw[aY];exact a8,by rw[aY];exact a9,?_⟩
 ·rw[SX (by omega)]at hz;exact dl i z hi hz
 ·rw[if_pos aI];refine⟨c1,c2,by rw[aY];exact c3,s,c4,?_⟩;rw[aY];have e0:t=t++#[]:=by simp
  rw[e0];exact c5.keep (λ_=>rfl) rfl rfl λsf g hg=>by rw[SX (by omega)]at hg;exact sf g hg
end
def MJ (P:SI)(Post:SP->Tq->Prop)(n0:Nat)(W0:Tq)(V:View)(g:SG):Prop:=
 g.status=.running/\∀gs w sl t K Im ic ph st,Inv P n0 W0 V gs w t K Im ic ph st->wn V.role ph->kD gs g->Ok P Post (crowd gs w sl) t
section
variable {P:SI}{Post:SP->Tq->Prop}{n0:Nat}{W0:Tq}
def afi (P:SI)(Post:SP->Tq->Prop)(gs:Array SG)(w:Tq)(sl:Option (Nat×Nat))(t:Uq):Prop:=
 (∃m' ops,runT P (crowd gs w sl) 0=(.next m',ops)/\Ok P Post m' (t++ops))\/∃o w' ops,runT P (crowd gs w sl) 0=(.ended o w',ops)/\∀w0 Fp,W7 P Post (crowd gs w0 Fp) o w' (t++ops)
theorem kD.pos{gs:Array SG}{g:SG}(h:kD gs g):∃(i:Nat)(x:SG),gs[i]?=some x/\x.status=.running:=by
 obtain⟨g0,h0,h1,_⟩:=h;exact⟨0,g0,h0,h1⟩
theorem MJ.iO{V:View}{g:SG}(hg:g.status=.running)(own:∀gs w sl t K Im ic ph st,Inv P n0 W0 V gs w t K Im ic ph st->wn V.role ph->kD gs g->afi P Post gs w sl t):MJ P Post n0 W0 V g:=by
 refine⟨hg,λgs w sl t K Im ic ph st h hr hm=> ?_⟩;generalize hN:gs.size=N;generalize hμ:((λj=>(K j).c9),flag gs ic)=μ;induction μ using(acw N).induction generalizing gs w sl t K st with
 |_ μ ih=>
  obtain⟨i,gi,d,pi,aO,bQ,aP⟩:=Z9 (P:=P) (w:=w) (sl:=sl) (h.awake (.inl hm)) hm.pos;have hd:=h.draw d;rcases UL i with rfl|hi
  ·rcases own _ _ pi _ _ _ _ _ _ hd hr hm with⟨m',ops,h1,h2⟩|⟨o,w',ops,h1,h2⟩
   ·exact Ok.step (aP.trans h1) h2
   ·exact Ok.end (aP.trans h1) (h2 w sl)
  ·rcases hd.other (sl:=pi) (.inl hm) hi aO bQ with⟨gs',w',ops,K',st',h1,h2,h3,h4,_,h5⟩|⟨p,_,_,jn⟩
   ·have pN:kD gs' g:=by
     cases ph with
     |none=>exact(h4 g 0 (by simp)).1 hm
     |some p=>exact(h4 g p.c (λq hq=>by cases hq;rfl)).1 hm
    exact Ok.step (aP.trans h1) (ih _ (by rw[<- hμ,<- hN];exact h5) gs' w' pi _ K' st' h3 pN (by rw[h2,hN]) rfl)
   ·obtain⟨g0,h0,hs,_⟩:=hm;obtain⟨g1,z,h1,_⟩:=jn;rw[h1]at h0;cases h0;cases hs
theorem MJ.recv{V:View}{g:SG}{c Wg:Nat}{Ss:List (List Spec)}{z:SP}(jo:V.role=.recv c Wg Ss)(gI:V.deaf=0)(hg:g.status=.running)
  (lz:∀w,Sat V w->stepG P true g w=.comm g #[rcase c z] true (.recv true) w #[])
  (J1:∀(i:Nat) sp S v Im Ow,Ss[i]?=some (sp::S)->sp v Im Ow->(∀b,V.own b≠none->Ow b=none)->(∀b o,V.own b≠none->Im b o≠none->V.ah b o≠none)->(∃w,Sat V w/\(∀b o x,Im b o=some x->w.cell? ⟨b,o,none⟩=some x)/\∀b x,Ow b=some x->w.heap[b]?=some x)->
   MJ P Post n0 W0 (od V Im Ow (.recv c Wg (Ss.set i S))) (Ua g (.tuple #[v,.bool true])))
  (J2:(∀S∈Ss,S=[])->MJ P Post n0 W0 {V with role:=.plain} (Ua g (.tuple #[z,.bool false]))):MJ P Post n0 W0 V g:=by
 have met:∀{gs w sl t K Im ic st i},Inv P n0 W0 V gs w t K Im ic (some ⟨c,Wg,Ss,true⟩) st->FW P n0 W0 V gs w sl t Im ic ⟨c,Wg,Ss,true⟩ st g i->∀{m},stepT P m=runT P (crowd gs w sl) i->Ok P Post m t:=by
  rintro gs w sl t K Im ic st i _ ⟨gs',w',ops,K',j,sp,S,v,kV,Ow,h1,h2,h3,h4,h5,h6,h6',h7,h8⟩ m hm
  exact Ok.step (hm.trans h1) ((J1 j sp S v kV Ow h4 h5 h6 h6' h7).2 gs' w' sl _ K' Im ic _ st h8 rfl h3)
 refine⟨hg,λgs w sl t K Im ic ph st h hr hm=> ?_⟩;have gN:ph=some ⟨c,Wg,Ss,true⟩:=by rw[jo]at hr;exact hr
 subst gN
 suffices key:∀N μ gs w sl t K st,Inv P n0 W0 V gs w t K Im ic (some ⟨c,Wg,Ss,true⟩) st->gs.size=N->((λj=>(K j).c9),flag gs ic)=μ->(kD gs g\/(oy gs g c/\Calm gs/\Ah w c))->Ok P Post (crowd gs w sl) t from key _ _ gs w sl t K st h rfl rfl (.inl hm)
 clear h hr hm;intro N μ;induction μ using(acw N).induction with
 |_ μ ih=>
  have A:∀gs w sl t K st,Inv P n0 W0 V gs w t K Im ic (some ⟨c,Wg,Ss,true⟩) st->gs.size=N->((λj=>(K j).c9),flag gs ic)=μ->oy gs g c->Calm gs->Ah w c->Ok P Post (crowd gs w sl) t:=by
   intro gs w sl t K st h hN hμ jn tM ho;have nU:kD gs g\/∃p,some (Phase.mk c Wg Ss true)=some p/\p.recv=true/\V.deaf=0/\oy gs g p.c:=.inr ⟨_,rfl,rfl,gI,jn⟩;have am5:∃(i:Nat)(x:SG),gs[i]?=some x/\x.status=.running:=by
    obtain⟨i,x,_,h1,h2⟩:=h.asf rfl ho tM;exact⟨i,x,h1,h2⟩
   obtain⟨i,gi,d,pi,aO,bQ,aP⟩:=Z9 (P:=P) (w:=w) (sl:=sl) (h.awake nU) am5;have hd:=h.draw d;have hi:0<i:=by
    rcases UL i with rfl|hi
    ·obtain⟨g1,z1,h1,_⟩:=jn;rw[h1]at aO;cases aO;cases bQ
    ·exact hi
   rcases hd.other (sl:=pi) nU hi aO bQ with⟨gs',w',ops,K',st',h1,h2,h3,h4,h5,h6⟩|⟨p,hp,vt,_⟩
   ·refine Ok.step (aP.trans h1) (ih _ (by rw[<- hμ,<- hN];exact h6) gs' w' pi _ K' st' h3 (by rw[h2,hN]) rfl ?_);rcases(h4 g c (λq hq=>by cases hq;rfl)).2 jn ho with x|⟨x,y⟩
    ·exact .inl x
    ·exact .inr ⟨x,h5 g c jn tM,y⟩
   ·cases hp;exact met hd vt aP
  intro gs w sl t K st h hN hμ pN;rcases pN with hm|⟨h1,h2,h3⟩
  ·obtain⟨i,gi,d,pi,aO,bQ,aP⟩:=Z9 (P:=P) (w:=w) (sl:=sl) (h.awake (.inl hm)) hm.pos;have hd:=h.draw d;rcases UL i with rfl|hi
   ·
    obtain⟨g0,h0,lR,ln,iW,mX⟩:=hm;have fB:Sat V (w.at d):=(by have:=hd.core.sat 0 h.pos;rwa [kT]at this);have ly:stepG P (0==0) g0 (w.at d)=.comm g #[rcase c z] true (.recv true) (w.at d) #[]:=(by rw[<- lz _ fB];exact Xl ln iW mX _);have e0:(t++Tc 0 g0.frame.fn g0.frame.place #[])=t:=(by simp[Tc]);rcases hd.opens rfl with⟨n,gM⟩|⟨ami,⟨n,a_⟩,_⟩
    ·by_cases abi:∃i j h' V₁ V₂ g1 v z1,0<i/\i<gs.size/\K i=.oq j h' V₁ V₂ g1 v z1
     ·exact met hd (hd.aq7 (sl:=pi) rfl gI ⟨g0,h0,lR,ln,iW,mX⟩ (lz _ fB) abi) aP
     ·have offers:∀m x,0<m->gs[m]?=some x->x.status=.blocked->x.offers=none:=by
       intro m x g_ hx hb;rcases GS.runs (show (K m).is P c Wg Im Ss (U4 t m) x from h.is m x g_ hx)with e|⟨e,_⟩|⟨j,h',V1,V2,g1,v,z1,e⟩|⟨_,_,e⟩
       ·rw[e]at hb;cases hb
       ·rw[e]at hb;cases hb
       ·exact absurd ⟨m,j,h',V1,V2,g1,v,z1,g_,(SS.1 hx).1,e⟩ abi
       ·exact e
      have hw:=crowd_waits (P:=P) (sl:=pi) (i:=0) h0 ly (λcc jk=>by
       simp only[TQ,SK,SZ,or_false]at jk;subst jk;refine ways_recv_none gM (partners_nil λm x hx=> ?_);rcases Yj gs 0 m x hx with⟨_,rfl⟩|⟨g_,jL⟩
       ·exact Zy _ _
       ·by_cases hb:x.status=.blocked
        ·unfold offersAt;simp[hb,offers m x (by omega) jL hb]
        ·exact U7 hb _ _)
      refine Ok.step (aP.trans hw) ?_;rw[e0];refine A _ (w.at d) pi t K st (hd.aoK rfl _) (by simp[hN]) ?_ ⟨g,z,?_,rfl,rfl,rfl⟩ (λm x g_ hx hb=> ?_) ⟨n,gM⟩
      ·rw[<- hμ];have fW:0<ic:=(by obtain⟨_,_,x,_⟩:=h.mode rfl;exact x);unfold flag;rw[SX (by omega)]
      ·rw[Tb h.pos]
      ·rw[SX (by omega)]at hx;exact offers m x g_ hx hb
    ·have hp:partners (gs.setIfInBounds 0 ph) c true=[]:=partners_nil λm x hx=>by
      rcases Yj gs 0 m x hx with⟨_,rfl⟩|⟨g_,jL⟩
      ·exact Zy _ _
      ·have hlt:m<gs.size:=(SS.1 jL).1;rcases GS.runs (show (K m).is P c Wg Im Ss (U4 t m) x from h.is m x (by omega) jL)with e|⟨e,_⟩|⟨j,h',V1,V2,g1,v,z1,e⟩|⟨_,eb,e⟩
       ·exact U7 (by rw[e];simp) _ _
       ·exact U7 (by rw[e];simp) _ _
       ·have:=ami m (by omega) hlt;rw[e]at this;cases this
       ·unfold offersAt;simp[eb,e]
     have hw:=crowd_recv_closed (P:=P) (sl:=pi) (i:=0) h0 ly a_ hp;refine Ok.step (aP.trans hw) ?_;rw[YE,<- XA,e0];obtain⟨hS,hinv⟩:=hd.asb rfl gI (g0:=g0) (g':=Ua g (recvd true z false)) a_ (y:={g:=0,fn:=g.frame.fn,pos:=g.frame.place,act:=.recvClosed c}) ⟨rfl,rfl⟩;exact(J2 hS).2 _ (w.at d) pi _ K Im ic none none hinv rfl ⟨Ua g (recvd true z false),by rw[Tb h.pos],rfl,rfl,rfl,rfl⟩
   ·rcases hd.other (sl:=pi) (.inl hm) hi aO bQ with⟨gs',w',ops,K',st',h1,h2,h3,h4,_,h5⟩|⟨p,_,_,jn⟩
    ·exact Ok.step (aP.trans h1) (ih _ (by rw[<- hμ,<- hN];exact h5) gs' w' pi _ K' st' h3 (by rw[h2,hN]) rfl (.inl ((h4 g c (λq hq=>by cases hq;rfl)).1 hm)))
    ·obtain⟨g0,h0,hs,_⟩:=hm;obtain⟨g1,z1,h1,_⟩:=jn;rw[h1]at h0;cases h0;cases hs
  ·exact A gs w sl t K st h hN hμ h1 h2 h3
theorem aoZ:Closed true P true (MJ P Post n0 W0)where
 step V g hs h:=by
  refine MJ.iO hs λgs w sl t K Im ic ph st hI hr ⟨g0,h0,lR,ln,iW,mX⟩=> .inl ?_;have fB:Sat V w:=by have:=hI.core.sat 0 hI.pos;rwa [kT]at this
  obtain⟨g',w',es,V',h1,h2,h3⟩:=h w fB;have aP:stepG P (0==0) g0 w=.go g' w' es:=by rw[<- h1];exact Xl ln iW mX w
  refine⟨_,_,runT_crowd_go h0 aP,h3.2 _ w' sl _ K Im ic ph st (hI.acm h0 h2 hr) (by rw[h2.role];exact hr) ⟨g',?_,h3.1,rfl,rfl,rfl⟩⟩;rw[Tb (by simpa using hI.pos)]
 ghost V V' g hg h:=⟨h.1,λgs w sl t K Im ic ph st hI hr hm=>h.2 gs w sl t K Im ic ph st (hI.aoJ hg hr) (by rw[hg.role];exact hr) hm⟩
 send V g c Wg sp S v z B hr hd hs ho h1 h2 h3:=⟨hs,λgs w sl t K Im ic ph st hI cq hm=>by rw[hr]at cq;exact cq.elim⟩
 done V g c Wg hr hd h1:=⟨h1.1,λgs w sl t K Im ic ph st hI cq hm=>by rw[hr]at cq;exact cq.elim⟩
 slip V g g' c Wg hr hs h1 h2:=⟨hs,λgs w sl t K Im ic ph st hI cq hm=>by rw[hr]at cq;exact cq.elim⟩
 more _:={
  start:=λV g c Wg hr aH hc hW oM h=>⟨h.1,λgs w sl t K Im ic ph st hI cq hm=>by
   rw[hr]at cq;cases cq;exact h.2 gs w sl t _ Im 0 _ _ (hI.begin aH hc hW oM) rfl hm⟩
  GC:=λV g g' child c Wg Ss sp S hr hd hs hc hW hlen oM aP ff Ns h=>by
   refine MJ.iO hs λgs w sl t K Im ic ph st hI cq ⟨g0,h0,lR,ln,iW,mX⟩=> .inl ?_;rw[hr]at cq;cases cq;have fB:Sat V w:=(by have:=hI.core.sat 0 hI.pos;rwa [kT]at this);have lX:stepG P (0==0) g0 w=.spawn g' child w #[]:=(by rw[<- aP w fB];exact Xl ln iW mX w);obtain⟨hh,hk⟩:=Ns _ (at3 P);have bQ:=ag' (P:=P) (sl:=sl) h0 lX;have e0:Tc 0 g0.frame.fn g0.frame.place #[]=#[]:=rfl;rw[e0]at bQ;have hinv:=hI.GC (g':=g') (x:={g:=0,fn:=g0.frame.fn,pos:=g0.frame.place,act:=.go gs.size}) (y:={g:=gs.size,fn:=child.frame.fn,pos:=g0.frame.place,act:=.start}) rfl hd ⟨rfl,rfl⟩ ⟨rfl,rfl⟩ hlen oM hk;exact⟨_,_,bQ,h.2 _ w sl _ _ Im ic _ _ hinv rfl ⟨g',by rw[Xp,if_neg (by simp;have:=hI.pos;omega),Tb hI.pos],h.1,rfl,rfl,rfl⟩⟩
  GB:=λV g g' child c Wg Ss hr hd hs aH hc hW A4 oM aP ff a_ h=>by
   refine MJ.iO hs λgs w sl t K Im ic ph st hI cq ⟨g0,h0,lR,ln,iW,mX⟩=> .inl ?_;rw[hr]at cq;cases cq;have fB:Sat V w:=(by have:=hI.core.sat 0 hI.pos;rwa [kT]at this);have lX:stepG P (0==0) g0 w=.spawn g' child w #[]:=(by rw[<- aP w fB];exact Xl ln iW mX w);obtain⟨n,hk⟩:=a_;have bQ:=ag' (P:=P) (sl:=sl) h0 lX;have e0:Tc 0 g0.frame.fn g0.frame.place #[]=#[]:=rfl;rw[e0]at bQ;have hinv:=hI.GB (g':=g') (x:={g:=0,fn:=g0.frame.fn,pos:=g0.frame.place,act:=.go gs.size}) (y:={g:=gs.size,fn:=child.frame.fn,pos:=g0.frame.place,act:=.start}) rfl hd ⟨rfl,rfl⟩ ⟨rfl,rfl⟩ hW oM hk;exact⟨_,_,bQ,h.2 _ w sl _ _ V.ah gs.size _ _ hinv rfl ⟨g',by rw[Xp,if_neg (by simp;have:=hI.pos;omega),Tb hI.pos],h.1,rfl,rfl,rfl⟩⟩
  recv:=λV g c Wg Ss z hr hd hs ho aP j1 j2=>MJ.recv hr hd hs aP j1 j2}
structure Left (n0:Nat)(W0 w:Tq):Prop where
 tape:w.tape=W0.tape
 os:w.os=W0.os
 out:w.output=W0.output
 old:∀b,b<n0->w.heap[b]?=W0.heap[b]?
 size:n0<=w.heap.size
theorem Inv.Lm{V:View}{gs:Array SG}{w:Tq}{t:Uq}{K:Nat->GS}{Im:cC}{ic:Nat}{st:Option eA}(h:Inv P n0 W0 V gs w t K Im ic none st){v:SP}(hp:Post v w)(w0:Tq)(Fp:Option (Nat×Nat)):W7 P Post (crowd gs w0 Fp) (.done v) w t:=by
 obtain⟨dl,gY,mZ,aP⟩:=h.out;have lX:st=none:=aP;refine⟨v,rfl,hp,gY.ti.nr,?_,⟨?_,rfl⟩,?_⟩
 ·intro i g hg lR ⟨x,hx,hm,hk⟩;rcases mZ i x hx hm with⟨q,z,h1,h2,h3⟩|⟨h1,h2⟩|⟨_,h1,_⟩
  ·rcases h3 with rfl|h3
   ·exfalso;simp only[WE,h1,UW,Tm]at hg;omega
   ·exact⟨q,by simp[WE,h1,h2],h3⟩
  ·rcases hk with hk|hk
   ·exact absurd h1 hk
   ·exact absurd hk h2
  ·rw[lX]at h1;cases h1
 ·intro g hg;obtain⟨i,hi⟩:=UY.1 hg;rw[Us]at hi;have cE:gs[1+i]?=some g:=by simpa[crowd]using hi
  obtain⟨q,_,hq⟩:=dl (1+i) g (by omega) cE;exact⟨q,hq.leaves⟩
 ·intro i g hi eX;obtain⟨q,_,hq⟩:=dl i g (by omega) hi;exact⟨q,hq.hears _⟩
theorem MJ.end{V:View}{g:SG}(hg:g.status=.running)(hr:V.role=.plain)
  (h:∀w,Sat V w->Left n0 W0 w->(∀b,b<n0->V.own b=none)->∃v w' es V',stepG P true g w=.ended (.done v) w' es/\di V w V' w' es/\Post v w'):MJ P Post n0 W0 V g:=by
 refine MJ.iO hg λgs w sl t K Im ic ph st hI cq ⟨g0,h0,lR,ln,iW,mX⟩=> .inr ?_;have gY:=hI.out.2.1;have fB:Sat V w:=by have:=hI.core.sat 0 hI.pos;rwa [kT]at this
 obtain⟨v,w',es,V',h1,h2,h3⟩:=h w fB ⟨gY.tape,gY.os,gY.out,gY.old,gY.n0⟩ (λb hb=>by have:=gY.ju 0 hI.pos b hb;rwa [kT]at this);have aP:stepG P (0==0) g0 w=.ended (.done v) w' es:=by rw[<- h1];exact Xl ln iW mX w
 refine⟨_,w',_,runT_crowd_ended h0 aP,λw0 Fp=> ?_⟩;have gN:ph=none:=by rw[hr]at cq;exact cq
 subst gN;have hinv:=hI.acm (g':=g0) h0 h2 cq;have tQ:=hinv.Lm (Post:=Post) h3 w0 Fp;obtain⟨v',e,hp,hn,hh,hl,hd⟩:=tQ;refine⟨v',e,hp,hn,hh,⟨?_,rfl⟩,?_⟩
 ·intro g A_;obtain⟨i,hi⟩:=UY.1 A_;rw[Us]at hi;have cE:gs[1+i]?=some g:=by simpa[crowd]using hi
  obtain⟨q,_,hq⟩:=hI.out.1 (1+i) g (by omega) cE;exact⟨q,hq.leaves⟩
 ·intro i g hi eX;obtain⟨q,_,hq⟩:=hI.out.1 i g (by omega) hi;refine⟨q,?_⟩;have:(t++Tc 0 g0.frame.fn g0.frame.place es).deaf i (t++Tc 0 g0.frame.fn g0.frame.place es).size=U4 t i:=
   av7 t (g:=i) (g':=0) (by omega) _ λop ay=>by obtain⟨e,_,rfl⟩:=TU ay;rfl
  rw[this];exact hq.hears _
theorem Inv.init(W:Tq){V:View}(ho:V.own=λ_=>none)(hd:V.deaf=0)(hs:Sat V W)(g:SG):Inv P W.heap.size W V #[g] W #[] (λ_=> .gone 0) V.ah 0 none none:=by
 have fA:∀i,i<(1:Nat)->bL V V.ah (λ_=> .gone 0) i=V:=λi hi=>by
  obtain rfl:i=0:=by omega
  simp[bL]
 refine Inv.mk' (by simp) rfl (by rw[hd];rfl) (λi x hi hx=> ?_) ⟨λi hi=>by rw[fA i hi];exact hs,λi j hi hj kx=> ?_,?_,rfl,rfl,rfl,λ_ _=>rfl,λi hi b _=>by rw[fA i hi,ho],SO _⟩ ?_ rfl
 ·exfalso;have:=(SS.1 hx).1;simp at this;omega
 ·simp at hi hj;omega
 ·refine⟨λsaid hr=> ?_,by simp,by simp,by simp,λi _ l _ idx a ha=> ?_,λi _ l _ idx a ha=> ?_,λidx a ha=> ?_⟩
  ·obtain⟨i,j,_,⟨a,b,ha,_⟩,_⟩:=hr;obtain⟨op,ay,_⟩:=U6 ha;simp at ay
  ·obtain⟨op,ay,_⟩:=U6 ha;simp at ay
  ·obtain⟨op,ay,_⟩:=U6 ha;simp at ay
  ·obtain⟨op,ay,_⟩:=U6 ha;simp at ay
 ·intro idx a ha _;obtain⟨op,ay,_⟩:=U6 ha;simp at ay
theorem akW{f:TY}{args:Array SP}{W:Tq}{V:View}{R:Out->View->Prop}(hi:P.inits.idxOf? f=none)(ho:V.own=λ_=>none)(hd:V.deaf=0)(cq:V.role=.plain)(hs:Sat V W)(h:Body true P f args .normal V R)
  (hR:∀o V',R o V'->V'.role=.plain/\∃v,o=.ret v/\∀w,Sat V' w->Left W.heap.size W w->Post v w):
  ∃M last o w' t',runNT P (M+1) (solo (G (Frame.enter P f args .normal) []) W) #[]=(.ended o w',t')/\runN P M (solo (G (Frame.enter P f args .normal) []) W)=.next last/\step P last=.ended o w'/\W7 P Post last o w' t':=by
 have hJ:MJ P Post W.heap.size W V (G (Frame.enter P f args .normal) []):=by
  refine h true _ aoZ [] λo V' fr r hl=> ?_;obtain⟨hr,v,rfl,hp⟩:=hR _ _ r;obtain⟨rfl,bC,hk,fn,hf,hm,gw⟩:=hl;refine MJ.end rfl hr λw hw Bd hold=> ?_;obtain⟨es,w',aU,h1,h2,h3⟩:=gw.runs hw;rcases h3 with⟨x,h3,rfl,rfl⟩|⟨_,_,hx⟩
  ·refine⟨x,w',seen P fr.fn es,aU,by simp[G,stepG,unwind,doReturn,hm,bC,hk,hf,h3,h2,T_,hi],h1.seen P fr.fn,?_⟩;refine hp w' h1.sat ⟨h1.tape.trans Bd.tape,h1.os.trans Bd.os,h1.output.trans Bd.out,λb hb=> ?_,TL Bd.size h1.size⟩;rw[h1.frame b (Tg hb Bd.size) (hold b hb)];exact Bd.old b hb
  ·exact hx.elim
 exact hJ.2 #[_] W none #[] _ _ _ none none (Inv.init W ho hd hs _) (by rw[cq];rfl) ⟨_,rfl,rfl,rfl,rfl,rfl⟩
end
def gz (P:SI)(main:Bool)(g:SG):SG:=match stepG P main g default with
 |.go g' _ _=>g'
 |_=>g
def BI (P:SI)(main:Bool)(g:SG):Array Uu:=match stepG P main g default with
 |.go _ _ es=>es
 |_=>#[]
def cG (P:SI)(main:Bool):Nat->SG->SG
 |0,g=>g
 |n+1,g=>cG P main n (gz P main g)
def fP (P:SI)(main:Bool)(w:Tq):Nat->SG->List ZP
 |0,_=>[]
 |n+1,g=>stepG P main g w::fP P main w n (gz P main g)
def fH (P:SI)(main:Bool)(w:Tq):Nat->SG->List ZP
 |0,_=>[]
 |n+1,g=> .go (gz P main g) w (BI P main g)::fH P main w n (gz P main g)
def bW (g:SG):Bool:=match g.status with
 |.running=>true
 |_=>false
theorem bW.out{g:SG}(h:bW g=true):g.status=.running:=by
 unfold bW at h;split at h
 ·assumption
 ·cases h
def ja (P:SI)(main:Bool):Nat->SG->Bool
 |0,_=>true
 |n+1,g=>bW g&&(BI P main g).all WK&&ja P main n (gz P main g)
def o_ (P:SI)(main:Bool):Nat->SG->Bool
 |0,_=>true
 |n+1,g=>bW g&&(BI P main g).isEmpty&&o_ P main n (gz P main g)
def jS (P:SI)(main:Bool):Nat->Nat->SG->Nat
 |0,d,_=>d
 |n+1,d,g=>jS P main n (deafBehind d (BI P main g)) (gz P main g)
section
variable {P:SI}
theorem On{n:Nat}{main:Bool}{g:SG}(h:ja P main (n+1) g=true):g.status=.running/\(∀e∈BI P main g,WK e=true)/\ja P main n (gz P main g)=true:=by
 simp only[ja,Te]at h;exact⟨bW.out h.1.1,λe he=>UQ.1 h.1.2 e he,h.2⟩
theorem xH{Stop:Nat->SG->Prop}:∀(n d:Nat)(g:SG),(∀w,fP P false w n g=fH P false w n g)->ja P false n g=true->(∃m,cT P Stop m (jS P false n d g) (cG P false n g))->∃m,cT P Stop m d g
 |0,d,g,_,_,hs=>hs
 |n+1,d,g,h,hm,hs=>by
  obtain⟨h1,h2,h3⟩:=On hm;obtain⟨m,hm⟩:=xH n _ (gz P false g) (λw=>(VE (h w)).2) h3 hs;exact⟨m+1,.inr ⟨h1,_,_,h2,λw=>(VE (h w)).1,hm⟩⟩
theorem adV{Wg:Nat}{Stop:Nat->SG->Prop}:∀(n d:Nat)(g:SG),(∀w,fP P false w n g=fH P false w n g)->ja P false n g=true->(∃m,im P Wg Stop m (jS P false n d g) (cG P false n g))->∃m,im P Wg Stop m d g
 |0,d,g,_,_,hs=>hs
 |n+1,d,g,h,hm,hs=>by
  obtain⟨h1,h2,h3⟩:=On hm;obtain⟨m,hm⟩:=adV n _ (gz P false g) (λw=>(VE (h w)).2) h3 hs;exact⟨m+1,.inr ⟨h1,_,_,h2,λw _ _ _=>(VE (h w)).1,hm⟩⟩
theorem adW{Wg:Nat}{Stop:Nat->SG->Prop}{d:Nat}{g g':SG}(hr:g.status=.running)(h:∀w x y,WgAt P Wg w x y->stepG P false g w=.go g' w #[]) (hs:∃m,im P Wg Stop m d g'):∃m,im P Wg Stop m d g:=by
 obtain⟨m,hm⟩:=hs;exact⟨m+1,.inr ⟨hr,g',#[],by simp,h,by simpa[deafBehind]using hm⟩⟩
theorem IR:∀(n d:Nat)(g:SG),(∀w,fP P false w n g=fH P false w n g)->ja P false n g=true->(∃q,Zf P q (jS P false n d g) (cG P false n g))->∃q,Zf P q d g
 |0,d,g,_,_,hs=>hs
 |n+1,d,g,h,hm,hs=>by
  obtain⟨h1,h2,h3⟩:=On hm;obtain⟨m,hm⟩:=IR n _ (gz P false g) (λw=>(VE (h w)).2) h3 hs;exact⟨m+1,.inr ⟨h1,_,_,h2,λw=>(VE (h w)).1,hm⟩⟩
theorem O6{d:Nat}{g:SG}(h:g.status=.finished)(hd:d=0):∃q,Zf P q d g:=⟨0,h,hd⟩
theorem aq3{n:Nat}{main:Bool}{g:SG}(h:o_ P main (n+1) g=true):g.status=.running/\BI P main g=#[]/\o_ P main n (gz P main g)=true:=by
 simp only[o_,Te]at h;exact⟨bW.out h.1.1,by simpa using h.1.2,h.2⟩
theorem ug{lv main:Bool}{J:View->SG->Prop}(C:Closed lv P main J){V:View}:∀(n:Nat)(g:SG),(∀w,fP P main w n g=fH P main w n g)->o_ P main n g=true->J V (cG P main n g)->J V g
 |0,g,_,_,hs=>hs
 |n+1,g,h,hm,hs=>by
  obtain⟨h1,h2,h3⟩:=aq3 hm;refine C.idle h1 (λw=> ?_) (ug C n (gz P main g) (λw=>(VE (h w)).2) h3 hs);rw[(VE (h w)).1,h2]
theorem Closed.mute{lv main:Bool}{J:View->SG->Prop}(C:Closed lv P main J){V:View}{g g':SG}{m:Mark}(hm:m=.disable\/m=.enable)(hr:g.status=.running)(h:∀w,stepG P main g w=.go g' w #[⟨.mark m,false,true⟩]) (hJ:J {V with deaf:=deafBehind V.deaf #[⟨.mark m,false,true⟩]} g'):J V g:=by
 refine C.step _ _ hr λw hw=> ?_;have hs:=arW (P:=P) (V:=V) (k:=(.pure ():Sem Unit)) (K:=λ_ V'=>V'={V with deaf:=deafBehind V.deaf #[⟨.mark m,false,true⟩]}) (Kp:=λ_ _=>False) hm (cJ rfl);obtain⟨es,w',V',k1,k2,k3⟩:=hs.runs hw;rcases k3 with⟨x,k3,rfl⟩|⟨_,_,hx⟩
 ·have e1:Yp () w=Yp x w':=k3;have e2:es=#[⟨.mark m,false,true⟩]:=k2.symm;cases e1;subst e2;refine⟨g',w,_,_,h w,?_,hJ⟩;rwa [ul (by rcases hm with rfl|rfl<;>simp)]at k1
 ·exact hx.elim
def ready (g:SG):Option Tx:=match g with
 |{frame:={fn:=_,tmps,todo:=.inRegion ops (i::_)::_,defers:=_,mode:=.run,kind,roundOf:=none},callers:=_,status:=.running,dying:=none,offers:=none}=>
  match ops[i]?with
  |some o=>if Tj o (yielded ops tmps)&& !(kind== .early)then some o else none
  |none=>none
 |_=>none
def fin (g:SG)(v:SP):SG:={g with frame:=g.frame.finish v}
theorem ready.out{g:SG}{o:Tx}(h:ready g=some o):∃(b:Ug)(a:Act)(ops:Array Tx)(i:Nat)(rest:List Nat)(k:List W1)(cs:List Ug),g=G (b.at a (.inRegion ops (i::rest)::k)) cs/\ops[i]?=some o/\Tj o (yielded ops a.tmps)=true/\b.kind≠ .early/\a.eval=g.frame.eval/\
  (∀v,G (b.at (a.put o.dst v) (.inRegion ops rest::k)) cs=fin g v)/\b.fn=g.frame.fn/\g.status=.running:=by
 unfold ready at h;split at h
 ·rename_i fn tmps ops i rest k defers kind cs;split at h
  ·rename_i o' ho;split at h
   ·rename_i hw;cases h;simp only[Te,TZ,beq_eq_false_iff_ne,ne_eq]at hw;refine⟨{(default:Ug)with fn,kind},⟨tmps,defers⟩,ops,i,rest,k,cs,rfl,ho,hw.1,hw.2,?_,λv=> ?_,rfl,rfl⟩
    ·funext x;cases x<;>rfl
    ·unfold fin;have:=Frame.finish_at {(default:Ug)with fn,kind} ⟨tmps,defers⟩ ops i rest k v;rw[ho]at this;simp only[Frame.at,Option.bind_some]at this⊢;rw[this];rfl
   ·cases h
  ·cases h
 ·cases h
def cy (g:SG):Option (TY×Array SP):=match ready g with
 |some {op:=.call {callee:=.value (.func f),args, .. }, .. }=>some (f,args.map g.frame.eval)
 |_=>none
theorem cy.out{g:SG}{f:TY}{vs:Array SP}(h:cy g=some (f,vs)):∃o aG mh,ready g=some o/\o.op=.call {callee:=.value (.func f),args:=aG,argTypes:=mh}/\aG.map g.frame.eval=vs:=by
 unfold cy at h;split at h
 ·rename_i f' aG mh dst ty pos af gd ho;cases h;exact⟨_,_,_,ho,rfl,rfl⟩
 ·cases h
structure Ext (P:SI)(f:TY)(e:Array SP->Sem SP):Prop where
 fn : ∃ fn, P.funcs[f]? = some fn /\ (fn.name == "runtime.NumGoroutine") = false /\ fn.body.isNone = true /\ Extern.findNext fn = none /\ Extern.find fn = some e
variable {main:Bool}{g:SG}{f:TY}{w:Tq}
theorem adZ{v d:Int}{k:T8}{ad:Vf}(h:cy g=some (f,#[.pointer (some ad),.int k d])) (he:Ext P f (X5 (awc .add) k true)) (hc:w.cell? ad=some (.int k v)) (hz:w.frozen? ad=false):
  stepG P main g w=.go (fin g (.int k (k.wrap (v+d)))) (w.setCell ad (.int k (k.wrap (v+d)))) #[⟨.cell ad,false,true⟩,⟨.cell ad,true,true⟩]:=by
 obtain⟨o,aG,mh,h1,h2,h3⟩:=cy.out h;obtain⟨b,a,ops,i,rest,kk,cs,e,q1,q2,q3,q4,q5,q6,_⟩:=ready.out h1;obtain⟨fn,f1,f2,f3,f4,f5⟩:=he.fn;rw[<- q4]at h3;rw[<- q5];refine VP (congrArg (λx=>stepG P main x w) e) ?_;exact ZQ q1 q2 q3 h2 f1 f2 f3 f4 f5 (by rw[h3];exact run_add_entry hc hz) (by rw[h3,events_add_entry hc hz];rfl) (sync_rw ad)
theorem Pr{v:Int}{k:T8}{ad:Vf}(h:cy g=some (f,#[.pointer (some ad)])) (he:Ext P f (Ye (.int k))) (hc:w.cell? ad=some (.int k v)):
  stepG P main g w=.go (fin g (.int k v)) w #[⟨.cell ad,false,true⟩]:=by
 obtain⟨o,aG,mh,h1,h2,h3⟩:=cy.out h;obtain⟨b,a,ops,i,rest,kk,cs,e,q1,q2,q3,q4,q5,q6,_⟩:=ready.out h1;obtain⟨fn,f1,f2,f3,f4,f5⟩:=he.fn;rw[<- q4]at h3;rw[<- q5];refine VP (congrArg (λx=>stepG P main x w) e) ?_;obtain⟨x,rfl⟩:∃x,aG=#[x]:=by
  have:aG.size=1:=by have:=congrArg ai_ h3;simpa using this
  exact Array.size_eq_one_iff.1 this
 exact stepG_load_atomic q1 q2 q3 h2 f1 f2 f3 f4 k f5 (by simpa using h3) hc
theorem asy{v:Int}{u:SP}{k:T8}{ad:Vf}(h:cy g=some (f,#[.pointer (some ad),.int k v])) (he:Ext P f X6) (hc:w.cell? ad=some u) (hz:w.frozen? ad=false):
  stepG P main g w=.go (fin g (.tuple #[])) (w.setCell ad (.int k v)) #[⟨.cell ad,true,true⟩]:=by
 obtain⟨o,aG,mh,h1,h2,h3⟩:=cy.out h;obtain⟨b,a,ops,i,rest,kk,cs,e,q1,q2,q3,q4,q5,q6,_⟩:=ready.out h1;obtain⟨fn,f1,f2,f3,f4,f5⟩:=he.fn;rw[<- q4]at h3;rw[<- q5];refine VP (congrArg (λx=>stepG P main x w) e) ?_;obtain⟨x,y,rfl⟩:∃x y,aG=#[x,y]:=by
  have:aG.toList.length=2:=by have:=congrArg ai_ h3;simpa using this
  obtain⟨l⟩:=aG
  match l,this with
  |[x,y],_=>exact⟨x,y,rfl⟩
 have wK:a.eval x=.pointer (some ad)/\a.eval y=.int k v:=by simpa using h3
 exact stepG_store_atomic q1 q2 q3 h2 f1 f2 f3 f4 f5 wK.1 wK.2 hc hz
theorem asr{v n:Int}{k:T8}{ad:Vf}(h:cy g=some (f,#[.pointer (some ad),.int k v,.int k n])) (he:Ext P f (W2 (.int k))) (hc:w.cell? ad=some (.int k v)) (hz:w.frozen? ad=false):
  stepG P main g w=.go (fin g (.bool true)) (w.setCell ad (.int k n)) #[⟨.cell ad,false,true⟩,⟨.cell ad,true,true⟩]:=by
 obtain⟨o,aG,mh,h1,h2,h3⟩:=cy.out h;obtain⟨b,a,ops,i,rest,kk,cs,e,q1,q2,q3,q4,q5,q6,_⟩:=ready.out h1;obtain⟨fn,f1,f2,f3,f4,f5⟩:=he.fn;rw[<- q4]at h3;rw[<- q5];refine VP (congrArg (λx=>stepG P main x w) e) ?_;exact ZQ q1 q2 q3 h2 f1 f2 f3 f4 f5 (by rw[h3,ac_];exact run_cas_hit_entry hc hz) (by rw[h3,ac_,events_cas_hit_entry hc hz];rfl) (sync_rw ad)
theorem ass{v old n:Int}{k:T8}{ad:Vf}(h:cy g=some (f,#[.pointer (some ad),.int k old,.int k n])) (he:Ext P f (W2 (.int k))) (hc:w.cell? ad=some (.int k v)) (hz:w.frozen? ad=false) (aH:¬v=old):
  stepG P main g w=.go (fin g (.bool false)) w #[⟨.cell ad,false,true⟩]:=by
 obtain⟨o,aG,mh,h1,h2,h3⟩:=cy.out h;obtain⟨b,a,ops,i,rest,kk,cs,e,q1,q2,q3,q4,q5,q6,_⟩:=ready.out h1;obtain⟨fn,f1,f2,f3,f4,f5⟩:=he.fn;rw[<- q4]at h3;rw[<- q5];refine VP (congrArg (λx=>stepG P main x w) e) ?_;exact ZQ q1 q2 q3 h2 f1 f2 f3 f4 f5 (by rw[h3,ac_];exact run_cas_miss_entry hc hz aH) (by rw[h3,ac_,events_cas_miss_entry hc hz aH];rfl) (sync_r ad)
theorem asw{n:Int}{x y:SP}{ad:Vf}(h:cy g=some (f,#[.pointer (some ad),x,y])) (he:Ext P f X4) (hc:w.cell? ad=some (.int .u32 n)) (hz:w.frozen? ad=false):
  stepG P main g w=.go (fin g (.tuple #[])) (w.setCell ad (.int .u32 (apT.wrap (n+1)))) (semEvents ad):=by
 obtain⟨o,aG,mh,h1,h2,h3⟩:=cy.out h;obtain⟨b,a,ops,i,rest,kk,cs,e,q1,q2,q3,q4,q5,q6,_⟩:=ready.out h1;obtain⟨fn,f1,f2,f3,f4,f5⟩:=he.fn;rw[<- q4]at h3;rw[<- q5];refine VP (congrArg (λx=>stepG P main x w) e) ?_;exact stepG_semrelease q1 q2 q3 h2 f1 f2 f3 f4 f5 (by rw[h3];rfl) hc hz
theorem asv{n:Int}{x:SP}{ad:Vf}(h:cy g=some (f,#[.pointer (some ad),x])) (he:Ext P f WJ) (hc:w.cell? ad=some (.int .u32 n)) (hn:n≠0) (hz:w.frozen? ad=false):
  stepG P main g w=.go (fin g (.tuple #[])) (w.setCell ad (.int .u32 (n-1))) (semEvents ad):=by
 obtain⟨o,aG,mh,h1,h2,h3⟩:=cy.out h;obtain⟨b,a,ops,i,rest,kk,cs,e,q1,q2,q3,q4,q5,q6,_⟩:=ready.out h1;obtain⟨fn,f1,f2,f3,f4,f5⟩:=he.fn;rw[<- q4]at h3;rw[<- q5];refine VP (congrArg (λx=>stepG P main x w) e) ?_;exact stepG_semacquire q1 q2 q3 h2 f1 f2 f3 f4 f5 (by rw[h3];rfl) hc hn hz
theorem asx{x:SP}{ad:Vf}(h:cy g=some (f,#[.pointer (some ad),x])) (he:Ext P f WJ) (hc:w.cell? ad=some (.int .u32 0)):
  stepG P main g w=.go {g with status:=.blocked} w #[]:=by
 obtain⟨o,aG,mh,h1,h2,h3⟩:=cy.out h;obtain⟨b,a,ops,i,rest,kk,cs,e,q1,q2,q3,q4,q5,q6,_⟩:=ready.out h1;obtain⟨fn,f1,f2,f3,f4,f5⟩:=he.fn;rw[<- q4]at h3;rw[e];exact stepG_semacquire_wait q1 q2 h2 f1 f2 f3 f4 f5 (by rw[h3];rfl) hc
theorem I3{ad:Vf}(mk:Vf->Mark)(hm:∀ad g,mk ad≠ .extern g)(h:cy g=some (f,#[.pointer (some ad)])) (he:Ext P f (VO mk)):
  stepG P main g w=.go (fin g (.tuple #[])) w #[⟨.mark (mk ad),false,true⟩]:=by
 obtain⟨o,aG,mh,h1,h2,h3⟩:=cy.out h;obtain⟨b,a,ops,i,rest,kk,cs,e,q1,q2,q3,q4,q5,q6,_⟩:=ready.out h1;obtain⟨fn,f1,f2,f3,f4,f5⟩:=he.fn;rw[<- q4]at h3;rw[<- q5];refine VP (congrArg (λx=>stepG P main x w) e) ?_;exact stepG_markAt mk hm q1 q2 q3 h2 f1 f2 f3 f4 f5 (by rw[h3];rfl)
def pA (g:SG):Option (TypeId×TypeId×SP):=match ready g with
 |some {op:=.convert s d x, .. }=>some (s,d,g.frame.eval x)
 |_=>none
theorem I4{src dst t:TypeId}{ad:Vf}{v:SP}(h:pA g=some (src,dst,.pointer (some ad)))(hs:P.underlying src=some (.pointer t))(hd:P.underlying dst=some .unsafePointer)(aY:(P.info? t).map (λi=>decide (i.size=0))=some false)(hc:w.cell? ad=some v):
  stepG P main g w=.go (fin g (.pointer (some ad))) w #[]:=by
 obtain⟨o,x,h1,h2,h3⟩:∃o x,ready g=some o/\o.op=.convert src dst x/\g.frame.eval x=.pointer (some ad):=by
  unfold pA at h;split at h
  ·rename_i s d x _ _ _ _ ho;simp only[Tm,Vb]at h;obtain⟨rfl,rfl,h⟩:=h;exact⟨_,x,ho,rfl,h⟩
  ·cases h
 obtain⟨b,a,ops,i,rest,kk,cs,e,q1,q2,q3,q4,q5,q6,_⟩:=ready.out h1;rw[<- q4]at h3;rw[<- q5];refine VP (congrArg (λx=>stepG P main x w) e) ?_;have hr:(execOp a.eval o).run P w=.ok (.value (.pointer (some ad))) w:=by
  unfold execOp;simp only[h2,h3];simp[run_convert_to_unsafe hs hd aY hc]
 have cm:(execOp a.eval o).events P w #[]=#[]:=by
  unfold execOp;simp only[h2,h3];simp[events_convert_to_unsafe hs hd aY hc]
 rw[av6 q1 q2 q3 hr];unfold listed;rw[cm,ag_]
end
open Go.Proofs
section
variable {P:SI}
theorem Pn{Stop:Nat->SG->Prop}{d:Nat}{g g':SG}{es:Array Uu}(hr:g.status=.running)(hm:∀e∈es,WK e=true)(h:∀w,stepG P false g w=.go g' w es)(hs:∃m,cT P Stop m (deafBehind d es) g'):∃m,cT P Stop m d g:=by
 obtain⟨m,hs⟩:=hs;exact⟨m+1,.inr ⟨hr,g',es,hm,h,hs⟩⟩
theorem I2{main:Bool}{g:SG}{f:TY}{w:Tq}{m:Mark}(hm:∀g,m≠ .extern g)(h:cy g=some (f,#[])) (he:Ext P f (λ_=>do ak_ m;pure Xe)):stepG P main g w=.go (fin g (.tuple #[])) w #[⟨.mark m,false,true⟩]:=by
 obtain⟨o,xs,mh,h1,h2,h3⟩:=cy.out h;obtain⟨b,a,ops,i,rest,kk,cs,e,q1,q2,q3,q4,q5,q6,_⟩:=ready.out h1;obtain⟨fn,f1,f2,f3,f4,f5⟩:=he.fn;rw[<- q4]at h3;rw[<- q5];refine VP (congrArg (λx=>stepG P main x w) e) ?_;exact stepG_mark0 m hm q1 q2 q3 h2 f1 f2 f3 f4 f5
theorem ad0{main:Bool}{g:SG}{f:TY}{w:Tq}{v:SP}{vs:Array SP}(h:cy g=some (f,vs))(he:Ext P f (λ_=>pure v)):stepG P main g w=.go (fin g v) w #[]:=by
 obtain⟨o,xs,mh,h1,h2,h3⟩:=cy.out h;obtain⟨b,a,ops,i,rest,kk,cs,e,q1,q2,q3,q4,q5,q6,_⟩:=ready.out h1;obtain⟨fn,f1,f2,f3,f4,f5⟩:=he.fn;rw[<- q5];refine VP (congrArg (λx=>stepG P main x w) e) ?_;exact stepG_entry_pure v q1 q2 q3 h2 f1 f2 f3 f4 f5
theorem WgAt.st{Wg:Nat}{w:Tq}{st sm:Int}(h:WgAt P Wg w st sm):w.cell? ⟨Wg,0,none⟩=some (.int .u64 st)/\w.cell? ⟨Wg,1,none⟩=some (.int .u32 sm)/\w.frozen? ⟨Wg,0,none⟩=false/\w.frozen? ⟨Wg,1,none⟩=false:=by
 unfold WgAt wgBlock at h;refine⟨?_,?_,?_,?_⟩<;>simp[UC,Z4,h]
theorem Oo{m:Mark}(hm:m=.disable\/m=.enable):∀e∈(#[⟨.mark m,false,true⟩]:Array Uu),WK e=true:=by
 intro e he;simp only[TQ,SK,SZ,or_false]at he;subst he;rcases hm with rfl|rfl<;>rfl
end
set_option maxRecDepth 100000
theorem air:Ext SA 110 (VO .releaseMerge):=⟨⟨Tryz.f110,by kernel_rfl,by kernel_rfl,by kernel_rfl,by kernel_rfl,by kernel_rfl⟩⟩
theorem KC:Ext SA 111 (λ_=>do ak_ .disable;pure Xe):=⟨⟨Tryz.f111,by kernel_rfl,by kernel_rfl,by kernel_rfl,by kernel_rfl,by kernel_rfl⟩⟩
theorem ais:Ext SA 112 (λ_=>do ak_ .enable;pure Xe):=⟨⟨Tryz.f112,by kernel_rfl,by kernel_rfl,by kernel_rfl,by kernel_rfl,by kernel_rfl⟩⟩
theorem RB:Ext SA 113 (λ_=>pure (.bool false)):=⟨⟨Tryz.f113,by kernel_rfl,by kernel_rfl,by kernel_rfl,by kernel_rfl,by kernel_rfl⟩⟩
theorem ait:Ext SA 118 (VO .read):=⟨⟨Tryz.f118,by kernel_rfl,by kernel_rfl,by kernel_rfl,by kernel_rfl,by kernel_rfl⟩⟩
theorem aiu:Ext SA 122 X4:=⟨⟨Tryz.f122,by kernel_rfl,by kernel_rfl,by kernel_rfl,by kernel_rfl,by kernel_rfl⟩⟩
theorem aiv:Ext SA 123 (VO .acquire):=⟨⟨Tryz.f123,by kernel_rfl,by kernel_rfl,by kernel_rfl,by kernel_rfl,by kernel_rfl⟩⟩
theorem aiw:Ext SA 126 (VO .write):=⟨⟨Tryz.f126,by kernel_rfl,by kernel_rfl,by kernel_rfl,by kernel_rfl,by kernel_rfl⟩⟩
theorem RD:Ext SA 127 WJ:=⟨⟨Tryz.f127,by kernel_rfl,by kernel_rfl,by kernel_rfl,by kernel_rfl,by kernel_rfl⟩⟩
theorem RE:Ext SA 134 (X5 (awc .add) .u64 true):=⟨⟨Tryz.f134,by kernel_rfl,by kernel_rfl,by kernel_rfl,by kernel_rfl,by kernel_rfl⟩⟩
theorem KD:Ext SA 135 (Ye (.int .u64)):=⟨⟨Tryz.f135,by kernel_rfl,by kernel_rfl,by kernel_rfl,by kernel_rfl,by kernel_rfl⟩⟩
theorem aix:Ext SA 136 X6:=⟨⟨Tryz.f136,by kernel_rfl,by kernel_rfl,by kernel_rfl,by kernel_rfl,by kernel_rfl⟩⟩
theorem RF:Ext SA 137 (W2 (.int .u64)):=⟨⟨Tryz.f137,by kernel_rfl,by kernel_rfl,by kernel_rfl,by kernel_rfl,by kernel_rfl⟩⟩
theorem aeO:SA.underlying 158=some (.pointer 147):=by kernel_rfl
theorem I_:SA.underlying 160=some .unsafePointer:=by kernel_rfl
theorem i182:(SA.info? 147).map (λi=>decide (i.size=0))=some false:=by kernel_rfl
noncomputable def arl:Ug:={(default:Ug)with fn:=184,defers:=[],mode:=.panicking [goexitEntry]}
noncomputable def arh (fn:TY)(tmps:Array SP)(todo:List W1):Ug:={fn,tmps,todo,defers:=[],mode:=.returning,kind:=.deferred,roundOf:=none}
noncomputable def pW (Wg o:Nat):SP:=.pointer (some ⟨Wg,o,none⟩)
section
variable (Wg:Nat)(tmps:Array SP)(todo:List W1)
noncomputable def d0:SG:=G (Frame.enter SA 98 #[pW Wg 0] .deferred) [arh 97 tmps todo,arl]
noncomputable def d14:SG:=cG SA false 14 (d0 Wg tmps todo)
noncomputable def d15:SG:=fin (d14 Wg tmps todo) (pW Wg 0)
noncomputable def d16:SG:=fin (d15 Wg tmps todo) (.tuple #[])
noncomputable def d19:SG:=cG SA false 3 (d16 Wg tmps todo)
noncomputable def d20:SG:=fin (d19 Wg tmps todo) (.tuple #[])
noncomputable def d31:SG:=cG SA false 11 (d20 Wg tmps todo)
noncomputable def d32:SG:=fin (d31 Wg tmps todo) (.bool false)
noncomputable def d54:SG:=cG SA false 22 (d32 Wg tmps todo)
noncomputable def d55 (s:Int):SG:=fin (d54 Wg tmps todo) (.int .u64 s)
noncomputable def d158:SG:=cG SA false 103 (d55 Wg tmps todo 1)
noncomputable def d159:SG:=fin (d158 Wg tmps todo) (.int .u64 1)
noncomputable def d179:SG:=cG SA false 20 (d159 Wg tmps todo)
noncomputable def d180:SG:=fin (d179 Wg tmps todo) (.tuple #[])
noncomputable def C3:SG:=cG SA false 27 (d180 Wg tmps todo)
noncomputable def Ay:SG:=fin (C3 Wg tmps todo) (.tuple #[])
set_option maxRecDepth 100000
variable (w:Tq)
theorem x0:(fP SA false w 14 (d0 Wg tmps todo),o_ SA false 14 (d0 Wg tmps todo),bW (d14 Wg tmps todo),bW (d15 Wg tmps todo))=(fH SA false w 14 (d0 Wg tmps todo),true,true,true):=by kernel_rfl
theorem x14:pA (d14 Wg tmps todo)=some (158,160,pW Wg 0):=by kernel_rfl
theorem x15:cy (d15 Wg tmps todo)=some (110,#[pW Wg 0]):=by kernel_rfl
theorem Jn:(fP SA false w 3 (d16 Wg tmps todo),ja SA false 3 (d16 Wg tmps todo),bW (d19 Wg tmps todo),jS SA false 3 0 (d16 Wg tmps todo))=(fH SA false w 3 (d16 Wg tmps todo),true,true,0):=by kernel_rfl
theorem x19:cy (d19 Wg tmps todo)=some (111,#[]):=by kernel_rfl
theorem Jp:(fP SA false w 11 (d20 Wg tmps todo),ja SA false 11 (d20 Wg tmps todo),bW (d31 Wg tmps todo),jS SA false 11 1 (d20 Wg tmps todo))=(fH SA false w 11 (d20 Wg tmps todo),true,true,1):=by kernel_rfl
theorem x31:cy (d31 Wg tmps todo)=some (113,#[]):=by kernel_rfl
theorem Jr:(fP SA false w 22 (d32 Wg tmps todo),ja SA false 22 (d32 Wg tmps todo),bW (d54 Wg tmps todo),jS SA false 22 1 (d32 Wg tmps todo))=(fH SA false w 22 (d32 Wg tmps todo),true,true,1):=by kernel_rfl
theorem x54:cy (d54 Wg tmps todo)=some (134,#[pW Wg 0,.int .u64 18446744069414584320]):=by kernel_rfl
theorem q30:(fP SA false w 94 (d55 Wg tmps todo (3* 4294967296)),ja SA false 94 (d55 Wg tmps todo (3* 4294967296)),(cG SA false 94 (d55 Wg tmps todo (3* 4294967296))).status,jS SA false 94 1 (d55 Wg tmps todo (3* 4294967296)))=(fH SA false w 94 (d55 Wg tmps todo (3* 4294967296)),true,.finished,0):=by kernel_rfl
theorem q31:(fP SA false w 94 (d55 Wg tmps todo (3* 4294967296+1)),ja SA false 94 (d55 Wg tmps todo (3* 4294967296+1)),(cG SA false 94 (d55 Wg tmps todo (3* 4294967296+1))).status,jS SA false 94 1 (d55 Wg tmps todo (3* 4294967296+1)))=(fH SA false w 94 (d55 Wg tmps todo (3* 4294967296+1)),true,.finished,0):=by kernel_rfl
theorem q20:(fP SA false w 94 (d55 Wg tmps todo (2* 4294967296)),ja SA false 94 (d55 Wg tmps todo (2* 4294967296)),(cG SA false 94 (d55 Wg tmps todo (2* 4294967296))).status,jS SA false 94 1 (d55 Wg tmps todo (2* 4294967296)))=(fH SA false w 94 (d55 Wg tmps todo (2* 4294967296)),true,.finished,0):=by kernel_rfl
theorem q21:(fP SA false w 94 (d55 Wg tmps todo (2* 4294967296+1)),ja SA false 94 (d55 Wg tmps todo (2* 4294967296+1)),(cG SA false 94 (d55 Wg tmps todo (2* 4294967296+1))).status,jS SA false 94 1 (d55 Wg tmps todo (2* 4294967296+1)))=(fH SA false w 94 (d55 Wg tmps todo (2* 4294967296+1)),true,.finished,0):=by kernel_rfl
theorem q10:(fP SA false w 94 (d55 Wg tmps todo (1* 4294967296)),ja SA false 94 (d55 Wg tmps todo (1* 4294967296)),(cG SA false 94 (d55 Wg tmps todo (1* 4294967296))).status,jS SA false 94 1 (d55 Wg tmps todo (1* 4294967296)))=(fH SA false w 94 (d55 Wg tmps todo (1* 4294967296)),true,.finished,0):=by kernel_rfl
theorem q11:(fP SA false w 94 (d55 Wg tmps todo (1* 4294967296+1)),ja SA false 94 (d55 Wg tmps todo (1* 4294967296+1)),(cG SA false 94 (d55 Wg tmps todo (1* 4294967296+1))).status,jS SA false 94 1 (d55 Wg tmps todo (1* 4294967296+1)))=(fH SA false w 94 (d55 Wg tmps todo (1* 4294967296+1)),true,.finished,0):=by kernel_rfl
theorem q00:(fP SA false w 94 (d55 Wg tmps todo 0),ja SA false 94 (d55 Wg tmps todo 0),(cG SA false 94 (d55 Wg tmps todo 0)).status,jS SA false 94 1 (d55 Wg tmps todo 0))=(fH SA false w 94 (d55 Wg tmps todo 0),true,.finished,0):=by kernel_rfl
theorem Js:(fP SA false w 103 (d55 Wg tmps todo 1),ja SA false 103 (d55 Wg tmps todo 1),bW (d158 Wg tmps todo),jS SA false 103 1 (d55 Wg tmps todo 1))=(fH SA false w 103 (d55 Wg tmps todo 1),true,true,1):=by kernel_rfl
theorem aui:cy (d158 Wg tmps todo)=some (135,#[pW Wg 0]):=by kernel_rfl
theorem Jm:(fP SA false w 20 (d159 Wg tmps todo),ja SA false 20 (d159 Wg tmps todo),bW (d179 Wg tmps todo),jS SA false 20 1 (d159 Wg tmps todo))=(fH SA false w 20 (d159 Wg tmps todo),true,true,1):=by kernel_rfl
theorem auj:cy (d179 Wg tmps todo)=some (136,#[pW Wg 0,.int .u64 0]):=by kernel_rfl
theorem Jo:(fP SA false w 27 (d180 Wg tmps todo),ja SA false 27 (d180 Wg tmps todo),bW (C3 Wg tmps todo),jS SA false 27 1 (d180 Wg tmps todo))=(fH SA false w 27 (d180 Wg tmps todo),true,true,1):=by kernel_rfl
theorem auk:cy (C3 Wg tmps todo)=some (122,#[pW Wg 1,.bool false,.int .i64 0]):=by kernel_rfl
theorem Jq:(fP SA false w 24 (Ay Wg tmps todo),ja SA false 24 (Ay Wg tmps todo),(cG SA false 24 (Ay Wg tmps todo)).status,jS SA false 24 1 (Ay Wg tmps todo))=(fH SA false w 24 (Ay Wg tmps todo),true,.finished,0):=by kernel_rfl
theorem xm:mayWake SA (C3 Wg tmps todo)=true:=by kernel_rfl
end
section
variable (Wg:Nat)(tmps:Array SP)(todo:List W1)
theorem d_{α β γ δ:Type}{a a':α}{b b':β}{c c':γ}{d d':δ}(h:(a,b,c,d)=(a',b',c',d')):a=a'/\b=b'/\c=c'/\d=d':=by
 simpa[Vb]using h
theorem yk{s:Int}(h:∀w,(fP SA false w 94 (d55 Wg tmps todo s),ja SA false 94 (d55 Wg tmps todo s),(cG SA false 94 (d55 Wg tmps todo s)).status,jS SA false 94 1 (d55 Wg tmps todo s))=(fH SA false w 94 (d55 Wg tmps todo s),true,.finished,0)):∃q,Zf SA q 1 (d55 Wg tmps todo s):=
 IR 94 1 _ (λw=>(d_ (h w)).1) (d_ (h default)).2.1 (O6 (d_ (h default)).2.2.1 (d_ (h default)).2.2.2)
theorem aii:FJ SA Wg 1 (C3 Wg tmps todo):=by
 refine⟨rfl,bW.out (d_ (Jo Wg tmps todo default)).2.2.1,xm Wg tmps todo,Ay Wg tmps todo,λw hw=> ?_,?_⟩
 ·exact asw (n:=0) (auk Wg tmps todo) aiu hw.st.2.1 hw.st.2.2.2
 ·exact IR 24 1 _ (λw=>(d_ (Jq Wg tmps todo w)).1) (d_ (Jq Wg tmps todo default)).2.1 (O6 (d_ (Jq Wg tmps todo default)).2.2.1 (d_ (Jq Wg tmps todo default)).2.2.2)
theorem aij:FK SA Wg 1 (d179 Wg tmps todo):=by
 refine⟨rfl,bW.out (d_ (Jm Wg tmps todo default)).2.2.1,d180 Wg tmps todo,λw hw=> ?_,?_⟩
 ·exact asy (auj Wg tmps todo) aix hw.st.1 hw.st.2.2.1
 ·refine xH 27 1 _ (λw=>(d_ (Jo Wg tmps todo w)).1) (d_ (Jo Wg tmps todo default)).2.1 ?_;rw[(d_ (Jo Wg tmps todo default)).2.2.2];exact⟨0,aii Wg tmps todo⟩
theorem aih:FI SA Wg 1 (d158 Wg tmps todo):=by
 refine⟨rfl,bW.out (d_ (Js Wg tmps todo default)).2.2.1,d159 Wg tmps todo,λw hw=> ?_,?_⟩
 ·exact Pr (aui Wg tmps todo) KD hw.st.1
 ·refine xH 20 1 _ (λw=>(d_ (Jm Wg tmps todo w)).1) (d_ (Jm Wg tmps todo default)).2.1 ?_;rw[(d_ (Jm Wg tmps todo default)).2.2.2];exact⟨0,aij Wg tmps todo⟩
theorem aif:Cm SA Wg 1 (d54 Wg tmps todo):=by
 refine⟨rfl,bW.out (d_ (Jr Wg tmps todo default)).2.2.1,λv wt so hv=>⟨d55 Wg tmps todo ((v:Int)* KK+wt),λw hw=> ?_,λh=> ?_,λh=> ?_⟩⟩
 ·have e:TD.wrap ((((v+1:Nat):Int)* KK+wt)+18446744069414584320)=(v:Int)* KK+wt:=by
   have h1:TD.bits=64:=rfl;have h2:TD.signed=false:=rfl;unfold Xk KK;rw[h1,h2];simp;omega
  have:=adZ (P:=SA) (main:=false) (w:=w) (x54 Wg tmps todo) RE hw.st.1 hw.st.2.2.1;rw[e]at this;exact this
 ·obtain⟨rfl,rfl⟩:=h;refine xH 103 1 _ (λw=>(d_ (Js Wg tmps todo w)).1) (d_ (Js Wg tmps todo default)).2.1 ?_;have e:=(d_ (Js Wg tmps todo default)).2.2.2;exact⟨0,by rw[show (((0:Nat):Int)* KK+((1:Nat):Int))=1 from rfl,e];exact aih Wg tmps todo⟩
 ·have hv4:v=0\/v=1\/v=2\/v=3:=by omega
  have ep:wt=0\/wt=1:=by omega
  rcases hv4 with rfl|rfl|rfl|rfl<;>rcases ep with rfl|rfl
  ·exact yk Wg tmps todo (q00 Wg tmps todo)
  ·exact absurd ⟨rfl,rfl⟩ h
  ·exact yk Wg tmps todo (q10 Wg tmps todo)
  ·exact yk Wg tmps todo (q11 Wg tmps todo)
  ·exact yk Wg tmps todo (q20 Wg tmps todo)
  ·exact yk Wg tmps todo (q21 Wg tmps todo)
  ·exact yk Wg tmps todo (q30 Wg tmps todo)
  ·exact yk Wg tmps todo (q31 Wg tmps todo)
theorem aig:FQ SA Wg (d15 Wg tmps todo):=by
 refine⟨bW.out (d_ (x0 Wg tmps todo default)).2.2.2,d16 Wg tmps todo,λw=>I3 .releaseMerge (λ_ _ h=>by cases h) (x15 Wg tmps todo) air,?_⟩;refine xH 3 0 _ (λw=>(d_ (Jn Wg tmps todo w)).1) (d_ (Jn Wg tmps todo default)).2.1 ?_;rw[(d_ (Jn Wg tmps todo default)).2.2.2];refine Pn (g:=d19 Wg tmps todo) (g':=d20 Wg tmps todo) (bW.out (d_ (Jn Wg tmps todo default)).2.2.1) (Oo (.inl rfl)) (λw=>I2 (λ_ h=>by cases h) (x19 Wg tmps todo) KC) ?_;refine xH 11 1 (d20 Wg tmps todo) (λw=>(d_ (Jp Wg tmps todo w)).1) (d_ (Jp Wg tmps todo default)).2.1 ?_;rw[(d_ (Jp Wg tmps todo default)).2.2.2];refine Pn (es:=#[]) (g:=d31 Wg tmps todo) (g':=d32 Wg tmps todo) (bW.out (d_ (Jp Wg tmps todo default)).2.2.1) (by simp) (λw=>ad0 (x31 Wg tmps todo) RB) ?_;refine xH 22 1 (d32 Wg tmps todo) (λw=>(d_ (Jr Wg tmps todo w)).1) (d_ (Jr Wg tmps todo default)).2.1 ?_;rw[(d_ (Jr Wg tmps todo default)).2.2.2];exact⟨0,aif Wg tmps todo⟩
theorem aik{J:View->SG->Prop}(C:z_ SA false J){V:View}{c:Nat}(hr:V.role=.work c Wg [])(hd:V.deaf=0):J V (d0 Wg tmps todo):=by
 have C':Closed false SA false J:={C with more:=λh=>by cases h};have hx:=d_ (x0 Wg tmps todo default);refine ug C' 14 _ (λw=>(d_ (x0 Wg tmps todo w)).1) hx.2.1 ?_;refine C.slip V _ (d15 Wg tmps todo) c Wg hr (bW.out hx.2.2.1) (λw st hw hW=> ?_) (C.done V _ c Wg hr hd (aig Wg tmps todo));exact I4 (x14 Wg tmps todo) aeO I_ i182 hW.st.1
end
section
variable (Wg:Nat)(cs:List Ug)(main:Bool)
noncomputable def a0:SG:=G (Frame.enter SA 96 #[pW Wg 0,.int .i64 1] .normal) cs
noncomputable def F0:SG:=cG SA main 12 (a0 Wg cs)
noncomputable def CG:SG:=fin (F0 Wg cs main) (.tuple #[])
noncomputable def F1:SG:=cG SA main 11 (CG Wg cs main)
noncomputable def CI:SG:=fin (F1 Wg cs main) (.bool false)
noncomputable def F2:SG:=cG SA main 22 (CI Wg cs main)
noncomputable def nv (s:Int):SG:=fin (F2 Wg cs main) (.int .u64 s)
noncomputable def nu (s:Int):SG:=cG SA main 87 (nv Wg cs main s)
noncomputable def JL:SG:=cG SA main 52 (nv Wg cs main 4294967296)
noncomputable def CE:SG:=fin (JL Wg cs main) (pW Wg 1)
noncomputable def CF:SG:=fin (CE Wg cs main) (.tuple #[])
noncomputable def CH:SG:=cG SA main 39 (CF Wg cs main)
set_option maxRecDepth 100000
variable (w:Tq)
theorem y0:(fP SA main w 12 (a0 Wg cs),o_ SA main 12 (a0 Wg cs),bW (F0 Wg cs main),cy (F0 Wg cs main))=(fH SA main w 12 (a0 Wg cs),true,true,some (111,#[])):=by kernel_rfl
theorem y13:(fP SA main w 11 (CG Wg cs main),o_ SA main 11 (CG Wg cs main),bW (F1 Wg cs main),cy (F1 Wg cs main))=(fH SA main w 11 (CG Wg cs main),true,true,some (113,#[])):=by kernel_rfl
theorem y25:(fP SA main w 22 (CI Wg cs main),o_ SA main 22 (CI Wg cs main),bW (F2 Wg cs main),cy (F2 Wg cs main))=(fH SA main w 22 (CI Wg cs main),true,true,some (134,#[pW Wg 0,.int .u64 4294967296])):=by kernel_rfl
noncomputable def zw (g:SG):ZP×Vk×Nat×Xm×List U8×Bool:=(.go (gz SA main g) w #[⟨.mark .enable,false,true⟩],(gz SA main g).frame.mode,(gz SA main g).frame.fn,(gz SA main g).frame.kind,(gz SA main g).frame.defers,bW (gz SA main g))
theorem PU:(fP SA main w 87 (nv Wg cs main (2* 4294967296)),o_ SA main 87 (nv Wg cs main (2* 4294967296)),bW (nu Wg cs main (2* 4294967296)),zw main w (nu Wg cs main (2* 4294967296)))=(fH SA main w 87 (nv Wg cs main (2* 4294967296)),true,true,stepG SA main (nu Wg cs main (2* 4294967296)) w,.returning,96,.normal,[],true):=by kernel_rfl
theorem PV:(fP SA main w 87 (nv Wg cs main (3* 4294967296)),o_ SA main 87 (nv Wg cs main (3* 4294967296)),bW (nu Wg cs main (3* 4294967296)),zw main w (nu Wg cs main (3* 4294967296)))=(fH SA main w 87 (nv Wg cs main (3* 4294967296)),true,true,stepG SA main (nu Wg cs main (3* 4294967296)) w,.returning,96,.normal,[],true):=by kernel_rfl
theorem PW:(fP SA main w 87 (nv Wg cs main (4* 4294967296)),o_ SA main 87 (nv Wg cs main (4* 4294967296)),bW (nu Wg cs main (4* 4294967296)),zw main w (nu Wg cs main (4* 4294967296)))=(fH SA main w 87 (nv Wg cs main (4* 4294967296)),true,true,stepG SA main (nu Wg cs main (4* 4294967296)) w,.returning,96,.normal,[],true):=by kernel_rfl
theorem ae3:(fP SA main w 52 (nv Wg cs main 4294967296),o_ SA main 52 (nv Wg cs main 4294967296),bW (JL Wg cs main),pA (JL Wg cs main))=(fH SA main w 52 (nv Wg cs main 4294967296),true,true,some (165,160,pW Wg 1)):=by kernel_rfl
theorem aul:cy (CE Wg cs main)=some (118,#[pW Wg 1]):=by kernel_rfl
theorem PT:(fP SA main w 39 (CF Wg cs main),o_ SA main 39 (CF Wg cs main),bW (CH Wg cs main),zw main w (CH Wg cs main))=(fH SA main w 39 (CF Wg cs main),true,true,stepG SA main (CH Wg cs main) w,.returning,96,.normal,[],true):=by kernel_rfl
theorem yr1:bW (CE Wg cs main)=true:=by kernel_rfl
theorem Ja:∃t,SA.underlying 165=some (.pointer t)/\(SA.info? t).map (λi=>decide (i.size=0))=some false:=⟨145,by kernel_rfl,by kernel_rfl⟩
theorem ajn:∃fn,SA.funcs[96]?=some fn/\fn.results=#[]:=⟨Tryz.f96,by kernel_rfl,by kernel_rfl⟩
end
section
variable {P:SI}{V:View}
theorem asJ{w:Tq}{b o:Nat}{v:SP}{c:Array SP}{el:TypeId}(hw:Sat V w)(ho:V.own b=some (.cells c el (0,0)))(cE:V.ah b o=none)(Mh:V.role.chan≠some b):
  di V w (V.upd b (.cells (c.setIfInBounds o v) el (0,0))) (w.setCell ⟨b,o,none⟩ v) #[⟨.cell ⟨b,o,none⟩,false,true⟩,⟨.cell ⟨b,o,none⟩,true,true⟩]:=by
 refine⟨hw.aeS ho cE,rfl,rfl,rfl,by rw[Fl];exact SO _,λb' dG e=>wY _ _ _ (λx=> ?_),λb' dG e=> ?_,λ_ _ _ e=>e,λ_ _ _ e=> .inl e,λev cm=> ?_,by simp[deafBehind];rfl,rfl,λc' x bu e=>by rw[<- e];simp only[View.upd,ite_eq_right_iff];intro x';subst x';exact absurd bu Mh,λev cm=> ?_⟩
 ·have x':b=b':=x;subst x';rw[ho]at e;cases e
 ·have:b'≠b:=by intro x;subst x;rw[ho]at e;cases e
  simp only[View.upd,this,if_false];exact e
 ·simp only[TQ,SK,SZ,or_false]at cm;rcases cm with rfl|rfl
  ·exact⟨.inr (.inl (by show V.own b≠none;rw[ho];simp)),.inl rfl⟩
  ·exact⟨.inr ⟨by show V.own b≠none;rw[ho];simp,cE⟩,.inl rfl⟩
 ·simp only[TQ,SK,SZ,or_false]at cm;rcases cm with rfl|rfl<;>(show b<_;rw[Fl];exact hw.lt ho)
theorem Closed.said{lv main:Bool}{J:View->SG->Prop}(C:Closed lv P main J){g g':SG}{a:Vf}(hr:g.status=.running)(ha:V.own a.block≠none/\V.ah a.block a.off=none)(h:∀w,stepG P main g w=.go g' w #[⟨.mark (.read a),false,true⟩]) (hJ:J V g'):J V g:=by
 refine C.step _ _ hr λw hw=> ?_;have hs:=arZ (P:=P) (V:=V) (k:=(.pure ():Sem Unit)) (K:=λ_ V'=>V'=V) (Kp:=λ_ _=>False) (m:=.read a) (.inl rfl) ha (cJ rfl);obtain⟨es,w',V',k1,k2,k3⟩:=hs.runs hw;rcases k3 with⟨x,k3,rfl⟩|⟨_,_,hx⟩
 ·have e1:Yp () w=Yp x w':=k3;have e2:es=#[⟨.mark (.read a),false,true⟩]:=k2.symm;cases e1;subst e2;refine⟨g',w,_,_,h w,?_,hJ⟩;rwa [ul (by simp)]at k1
 ·exact hx.elim
end
section
variable (Wg:Nat)(cs:List Ug)(main:Bool)
set_option maxRecDepth 100000
theorem yG2:gz SA main (nu Wg cs main (2* 4294967296))=G (gz SA main (nu Wg cs main (2* 4294967296))).frame cs:=by kernel_rfl
theorem yG3:gz SA main (nu Wg cs main (3* 4294967296))=G (gz SA main (nu Wg cs main (3* 4294967296))).frame cs:=by kernel_rfl
theorem yG4:gz SA main (nu Wg cs main (4* 4294967296))=G (gz SA main (nu Wg cs main (4* 4294967296))).frame cs:=by kernel_rfl
theorem yG1:gz SA main (CH Wg cs main)=G (gz SA main (CH Wg cs main)).frame cs:=by kernel_rfl
end
theorem kS{α β γ δ:Type}{a a':α}{b b':β}{c c':γ}{d d':δ}(h:(a,b,c,d)=(a',b',c',d')):a=a'/\b=b'/\c=c'/\d=d':=by
 simpa[Vb]using h
section
variable {lv main:Bool}{J:View->SG->Prop}{V:View}{cs:List Ug}
theorem F5(C:Closed lv SA main J){g:SG}{U:View}(bQ:bW g=true)(h:∀w,(Go.Gg.zw main w g)=(stepG SA main g w,.returning,96,.normal,[],true))(hG:gz SA main g=G (gz SA main g).frame cs)
  (hU:U={V with deaf:=deafBehind V.deaf #[⟨.mark .enable,false,true⟩]}) (hJ:∀fr,Leaves SA fr 96 .normal (.ret (.tuple #[])) U->J U (G fr cs)):J V g:=by
 refine C.mute (.inr rfl) (bW.out bQ) (λw=> ?_) (g':=gz SA main g) ?_
 ·have:=h w;simp only[Go.Gg.zw,Vb]at this;exact this.1.symm
 ·have:=h default;simp only[Go.Gg.zw,Vb]at this;obtain⟨_,h1,h2,h3,h4,_⟩:=this;rw[hG,<- hU];refine hJ _ ⟨h2,h4,h3,?_⟩;obtain⟨fn,hf,hr⟩:=ajn;exact⟨fn,hf,h1,results_none hr⟩
theorem af8{n Wg:Nat}{sm:TypeId}(hn:n<4)(hW:V.own Wg=some (.cells #[.int .u64 ((n:Int)* KK),.int .u32 0] sm (0,0))) (hi:∀o,V.ah Wg o=none) (hc:V.role.chan≠some Wg) (hd:V.deaf=0):
  Body lv SA 96 #[pW Wg 0,.int .i64 1] .normal V (λo V'=>o=.ret (.tuple #[])/\V'=V.upd Wg (.cells #[.int .u64 (((n+1:Nat):Int)* KK),.int .u32 0] sm (0,0))):=by
 intro main J C cs hJ;have hA:=kS (y0 Wg cs main default);show J V (a0 Wg cs);refine ug C 12 _ (λw=>(kS (y0 Wg cs main w)).1) hA.2.1 ?_;refine C.mute (g:=F0 Wg cs main) (g':=CG Wg cs main) (.inl rfl) (bW.out hA.2.2.1) (λw=>I2 (λ_ h=>by cases h) hA.2.2.2 KC) ?_;have hB:=kS (y13 Wg cs main default);refine ug C 11 _ (λw=>(kS (y13 Wg cs main w)).1) hB.2.1 ?_;refine C.idle (g:=F1 Wg cs main) (g':=CI Wg cs main) (bW.out hB.2.2.1) (λw=>ad0 hB.2.2.2 RB) ?_;have hC:=kS (y25 Wg cs main default);refine ug C 22 _ (λw=>(kS (y25 Wg cs main w)).1) hC.2.1 ?_;let V1:View:={V with deaf:=deafBehind V.deaf #[⟨.mark .disable,false,true⟩]};let V2:View:=V1.upd Wg (.cells #[.int .u64 (((n+1:Nat):Int)* KK),.int .u32 0] sm (0,0));have AW:{V2 with deaf:=deafBehind V2.deaf #[⟨.mark .enable,false,true⟩]}=V.upd Wg (.cells #[.int .u64 (((n+1:Nat):Int)* KK),.int .u32 0] sm (0,0)):=by
  obtain⟨i,o,d,r⟩:=V;have:d=0:=hd;subst this;rfl
 show J V1 (F2 Wg cs main);refine C.step _ _ (bW.out hC.2.2.1) λw hw=> ?_;have hh:=hw.own Wg _ hW;have dt:w.cell? ⟨Wg,0,none⟩=some (.int .u64 ((n:Int)* KK)):=by simp[UC,hh]
 have HT:w.frozen? ⟨Wg,0,none⟩=false:=by simp[Z4,hh]
 have hs:=adZ (P:=SA) (main:=main) (w:=w) hC.2.2.2 RE dt HT;have e:TD.wrap (((n:Int)* KK)+4294967296)=((n+1:Nat):Int)* KK:=by
  have h1:TD.bits=64:=rfl;have h2:TD.signed=false:=rfl;unfold Xk KK;rw[h1,h2];simp;omega
 rw[e]at hs;refine⟨nv Wg cs main (((n+1:Nat):Int)* KK),_,_,V2,hs,?_,?_⟩
 ·exact asJ (V:=V1) hw hW (hi 0) hc
 have hn4:n=0\/n=1\/n=2\/n=3:=by omega
 rcases hn4 with rfl|rfl|rfl|rfl
 ·have hD:=kS (ae3 Wg cs main default);refine ug C 52 _ (λw=>(kS (ae3 Wg cs main w)).1) hD.2.1 ?_;obtain⟨t,Ng,ze⟩:=Ja;have hW2:V2.own Wg=some (.cells #[.int .u64 (((0+1:Nat):Int)* KK),.int .u32 0] sm (0,0)):=by simp[V2,View.upd]
  refine C.step _ _ (bW.out hD.2.2.1) λw hw=>⟨CE Wg cs main,w,#[],V2,?_,.idle hw,?_⟩
  ·have hh:=hw.own Wg _ hW2;exact I4 hD.2.2.2 Ng I_ ze (v:=.int .u32 0) (by simp[UC,hh])
  refine C.said (g:=CE Wg cs main) (g':=CF Wg cs main) (a:=⟨Wg,1,none⟩) (bW.out (yr1 Wg cs main)) ⟨by show V2.own Wg≠none;rw[hW2];simp,hi 1⟩ (λw=>I3 .read (λ_ _ h=>by cases h) (aul Wg cs main) ait) ?_;have hE:=kS (PT Wg cs main default);refine ug C 39 _ (λw=>(kS (PT Wg cs main w)).1) hE.2.1 ?_;exact F5 C hE.2.2.1 (λw=>(kS (PT Wg cs main w)).2.2.2) (yG1 Wg cs main) AW.symm λfr hl=>hJ _ _ fr ⟨rfl,rfl⟩ hl
 ·have hE:=kS (PU Wg cs main default);refine ug C 87 _ (λw=>(kS (PU Wg cs main w)).1) hE.2.1 ?_;exact F5 C hE.2.2.1 (λw=>(kS (PU Wg cs main w)).2.2.2) (yG2 Wg cs main) AW.symm λfr hl=>hJ _ _ fr ⟨rfl,rfl⟩ hl
 ·have hE:=kS (PV Wg cs main default);refine ug C 87 _ (λw=>(kS (PV Wg cs main w)).1) hE.2.1 ?_;exact F5 C hE.2.2.1 (λw=>(kS (PV Wg cs main w)).2.2.2) (yG3 Wg cs main) AW.symm λfr hl=>hJ _ _ fr ⟨rfl,rfl⟩ hl
 ·have hE:=kS (PW Wg cs main default);refine ug C 87 _ (λw=>(kS (PW Wg cs main w)).1) hE.2.1 ?_;exact F5 C hE.2.2.1 (λw=>(kS (PW Wg cs main w)).2.2.2) (yG4 Wg cs main) AW.symm λfr hl=>hJ _ _ fr ⟨rfl,rfl⟩ hl
end
section
variable {P:SI}{main:Bool}{g:SG}{w:Tq}
def vS (g:SG):Option (TypeId×SP):=match ready g with
 |some {op:=.load t x, .. }=>some (t,g.frame.eval x)
 |_=>none
theorem asu{t:TypeId}{d:TypeDesc}{ad:Vf}{v:SP}(h:vS g=some (t,.pointer (some ad)))(ht:P.underlying t=some d)(hd:TypeDesc.agg d=false)(hq:(P.funcs[g.frame.fn]?).any (·.norace)=false)(hc:w.cell? ad=some v):
  stepG P main g w=.go (fin g v) w #[⟨.cell ad,false,false⟩]:=by
 obtain⟨o,x,h1,h2,h3⟩:∃o x,ready g=some o/\o.op=.load t x/\g.frame.eval x=.pointer (some ad):=by
  unfold vS at h;split at h
  ·rename_i s x _ _ _ _ ho;simp only[Tm,Vb]at h;obtain⟨rfl,h⟩:=h;exact⟨_,x,ho,rfl,h⟩
  ·cases h
 obtain⟨b,a,ops,i,rest,kk,cs,e,q1,q2,q3,q4,q5,q6,_⟩:=ready.out h1;rw[<- q4]at h3;rw[<- q5];refine VP (congrArg (λx=>stepG P main x w) e) ?_;have e1:execOp a.eval o=(do let v<- XK t (.pointer (some ad));pure (.value v)):=by
  unfold execOp;simp only[h2,h3]
 have e2:(isAgg t:Sem Bool).run P w=.ok false w/\∀es,(isAgg t:Sem Bool).events P w es=es:=by
  unfold isAgg Go.underlying;cases d<;>first
   |(exact(Bool.noConfusion hd))
   |(constructor<;>simp[go_sem,ht])
 have hr:(execOp a.eval o).run P w=.ok (.value v) w:=by
  rw[e1];simp[XK,Vm,loadVar,e2.1,hc]
 have cm:(execOp a.eval o).events P w #[]=#[⟨.cell ad,false,false⟩]:=by
  rw[e1];simp[XK,Vm,loadVar,e2.1,e2.2,hc]
 rw[av6 q1 q2 q3 hr];unfold listed;rw[cm,seen_eq (by rw[q6];exact hq) (by intro e he f;simp only[TQ,SK,SZ,or_false]at he;rw[he];simp)]
def yi (g:SG):Option SP:=match ready g with
 |some {op:=.call {callee:=.builtin .close,args, .. }, .. }=>match args.toList with
  |[x]=>some (g.frame.eval x)
  |_=>none
 |_=>none
theorem ast{c cap s r:Nat}{Ge:Array SP}{tm:Bool}(h:yi g=some (.chan (some c)))(hq:(P.funcs[g.frame.fn]?).any (·.norace)=false)(hc:w.heap[c]?=some (.chan cap Ge false s r tm)):
  stepG P main g w=.go (fin g (.tuple #[])) {w with heap:=w.heap.setIfInBounds c (.chan cap Ge true s r tm)} #[⟨.obj c,false,true⟩,⟨.obj c,true,true⟩]:=by
 obtain⟨o,x,mh,h1,h2,h3⟩:∃o x mh,ready g=some o/\o.op=.call {callee:=.builtin .close,args:=#[x],argTypes:=mh}/\g.frame.eval x=.chan (some c):=by
  unfold yi at h;split at h
  ·rename_i dst xs mh ty pos af gd ho;split at h
   ·rename_i x hx;have:xs=#[x]:=(by apply VJ;simpa using hx);subst this;exact⟨_,x,_,ho,rfl,by simpa using h⟩
   ·cases h
  ·cases h
 obtain⟨b,a,ops,i,rest,kk,cs,e,q1,q2,q3,q4,q5,q6,_⟩:=ready.out h1;rw[<- q4]at h3;rw[<- q5];refine VP (congrArg (λx=>stepG P main x w) e) ?_;exact stepG_close q1 q2 q3 h2 h3 hc (by rw[q6];exact hq)
end
section
variable (Wg fc c:Nat)
noncomputable def e0:SG:=born SA ⟨.fn (.func 100) #[pW Wg 0,pW fc 0],#[]⟩
noncomputable def e7:SG:=cG SA false 7 (e0 Wg fc)
noncomputable def e8:SG:=fin (e7 Wg fc) (.tuple #[])
noncomputable def e27:SG:=cG SA false 19 (e8 Wg fc)
noncomputable def f76 (h:SG)(v:Int):SG:=cG SA false 48 (fin h (.int .u64 v))
noncomputable def Oi (b:SG):SG:=cG SA false 25 (fin b (.bool false))
noncomputable def f96 (b:SG):SG:=cG SA false 19 (fin b (.bool true))
noncomputable def f97 (b:SG):SG:=fin (f96 b) (pW Wg 1)
noncomputable def f121 (b:SG):SG:=cG SA false 23 (fin (f97 Wg b) (.tuple #[]))
noncomputable def f138 (b:SG):SG:=cG SA false 16 (fin (f121 Wg b) (.tuple #[]))
noncomputable def f150 (b:SG):SG:=cG SA false 11 (fin (f138 Wg b) (.int .u64 0))
noncomputable def f154 (b:SG):SG:=cG SA false 3 (fin (f150 Wg b) (.tuple #[]))
noncomputable def f155 (b:SG):SG:=fin (f154 Wg b) (pW Wg 0)
noncomputable def f168 (b:SG):SG:=cG SA false 12 (fin (f155 Wg b) (.tuple #[]))
noncomputable def f169 (b:SG):SG:=fin (f168 Wg b) (.chan (some c))
noncomputable def f170 (b:SG):SG:=fin (f169 Wg c b) (.tuple #[])
noncomputable def z9 (h:SG):SG:=cG SA false 31 (fin h (.int .u64 0))
noncomputable def PX (h:SG):SG:=cG SA false 3 (fin (z9 h) (.tuple #[]))
noncomputable def wa (h:SG):SG:=fin (PX h) (pW Wg 0)
noncomputable def FD (h:SG):SG:=cG SA false 22 (fin (wa Wg h) (.tuple #[]))
noncomputable def wb (h:SG):SG:=fin (FD Wg h) (.chan (some c))
noncomputable def Ju (h:SG):SG:=fin (wb Wg c h) (.tuple #[])
noncomputable def hd:List Int->SG
 |[]=>e27 Wg fc
 |v::l=>Oi (f76 (hd l) v)
noncomputable def bd (l:List Int)(v:Int):SG:=f76 (hd Wg fc l) v
noncomputable def fy (w:Tq)(n d:Nat)(g:SG):List ZP×Bool×Bool×Nat:=(fP SA false w n g,ja SA false n g,bW (cG SA false n g),jS SA false n d g)
noncomputable def fx (w:Tq)(n d:Nat)(g:SG):List ZP×Bool×Bool×Nat:=(fH SA false w n g,true,true,d)
noncomputable def AE (w:Tq)(n:Nat)(g:SG):List ZP×Bool×GoStatus×Nat:=(fP SA false w n g,ja SA false n g,(cG SA false n g).status,jS SA false n 0 g)
noncomputable def AD (w:Tq)(n:Nat)(g:SG):List ZP×Bool×GoStatus×Nat:=(fH SA false w n g,true,.finished,0)
noncomputable def qZ (g:SG):Bool:= !(SA.funcs[g.frame.fn]?).any (·.norace)
noncomputable def zT (w:Tq)(h:SG):=(cy h,bW h,fy w 31 1 (fin h (.int .u64 0)),cy (z9 h),fy w 3 0 (fin (z9 h) (.tuple #[])),pA (PX h),cy (wa Wg h),bW (wa Wg h),fy w 22 0 (fin (wa Wg h) (.tuple #[])),vS (FD Wg h),qZ (FD Wg h),yi (wb Wg c h),qZ (wb Wg c h),bW (wb Wg c h),mayWake SA (wb Wg c h),AE w 4 (Ju Wg c h))
noncomputable def zR (w:Tq)(h:SG):=(some ((135:TY),#[pW Wg 0]),true,fx w 31 1 (fin h (.int .u64 0)),some ((112:TY),(#[]:Array SP)),fx w 3 0 (fin (z9 h) (.tuple #[])),some ((158:TypeId),(160:TypeId),pW Wg 0),some ((123:TY),#[pW Wg 0]),true,fx w 22 0 (fin (wa Wg h) (.tuple #[])),some ((139:TypeId),pW fc 0),true,some (X2 (some c)),true,true,true,AD w 4 (Ju Wg c h))
noncomputable def fT (w:Tq)(b:SG):=(cy b,bW b,fy w 25 1 (fin b (.bool false)),fy w 19 1 (fin b (.bool true)),pA (f96 b),cy (f97 Wg b),bW (f97 Wg b),fy w 23 1 (fin (f97 Wg b) (.tuple #[])),cy (f121 Wg b),(f121 Wg b).offers,fy w 16 1 (fin (f121 Wg b) (.tuple #[])),cy (f138 Wg b),fy w 11 1 (fin (f138 Wg b) (.int .u64 0)),cy (f150 Wg b),fy w 3 0 (fin (f150 Wg b) (.tuple #[])),pA (f154 Wg b),cy (f155 Wg b),bW (f155 Wg b),fy w 12 0 (fin (f155 Wg b) (.tuple #[])),vS (f168 Wg b),qZ (f168 Wg b),yi (f169 Wg c b),qZ (f169 Wg c b),bW (f169 Wg c b),mayWake SA (f169 Wg c b),AE w 4 (f170 Wg c b))
noncomputable def fR (w:Tq)(b:SG)(v:Int):=(some ((137:TY),#[pW Wg 0,.int .u64 v,.int .u64 (v+1)]),true,fx w 25 1 (fin b (.bool false)),fx w 19 1 (fin b (.bool true)),some ((165:TypeId),(160:TypeId),pW Wg 1),some ((126:TY),#[pW Wg 1]),true,fx w 23 1 (fin (f97 Wg b) (.tuple #[])),some ((127:TY),#[pW Wg 1,.bool false]),(none:Option (Array CommCase×CommShape)),fx w 16 1 (fin (f121 Wg b) (.tuple #[])),some ((135:TY),#[pW Wg 0]),fx w 11 1 (fin (f138 Wg b) (.int .u64 0)),some ((112:TY),(#[]:Array SP)),fx w 3 0 (fin (f150 Wg b) (.tuple #[])),some ((158:TypeId),(160:TypeId),pW Wg 0),some ((123:TY),#[pW Wg 0]),true,fx w 12 0 (fin (f155 Wg b) (.tuple #[])),some ((139:TypeId),pW fc 0),true,some (X2 (some c)),true,true,true,AD w 4 (f170 Wg c b))
set_option maxRecDepth 100000
theorem c0(w:Tq):(fy w 7 0 (e0 Wg fc),cy (e7 Wg fc),fy w 19 1 (e8 Wg fc))=(fx w 7 0 (e0 Wg fc),some ((111:TY),(#[]:Array SP)),fx w 19 1 (e8 Wg fc)):=by kernel_rfl
noncomputable def pT (w:Tq)(l:List Int)(v:Int):=(fy w 48 1 (fin (hd Wg fc l) (.int .u64 v)),fT Wg c w (bd Wg fc l v),zT Wg c w (hd Wg fc (v::l)))
noncomputable def pR (w:Tq)(l:List Int)(v:Int):=(fx w 48 1 (fin (hd Wg fc l) (.int .u64 v)),fR Wg fc c w (bd Wg fc l v) v,zR Wg fc c w (hd Wg fc (v::l)))
theorem zz(w:Tq):zT Wg c w (hd Wg fc [])=zR Wg fc c w (hd Wg fc []):=by kernel_rfl
theorem O1(w:Tq):pT Wg fc c w [] (4* 4294967296)=pR Wg fc c w [] (4* 4294967296):=by kernel_rfl
theorem O0(w:Tq):pT Wg fc c w [4* 4294967296] (3* 4294967296)=pR Wg fc c w [4* 4294967296] (3* 4294967296):=by kernel_rfl
theorem OX(w:Tq):pT Wg fc c w [3* 4294967296,4* 4294967296] (2* 4294967296)=pR Wg fc c w [3* 4294967296,4* 4294967296] (2* 4294967296):=by kernel_rfl
theorem OQ(w:Tq):pT Wg fc c w [2* 4294967296,3* 4294967296,4* 4294967296] (1* 4294967296)=pR Wg fc c w [2* 4294967296,3* 4294967296,4* 4294967296] (1* 4294967296):=by kernel_rfl
theorem OT(w:Tq):pT Wg fc c w [3* 4294967296,4* 4294967296] (1* 4294967296)=pR Wg fc c w [3* 4294967296,4* 4294967296] (1* 4294967296):=by kernel_rfl
theorem OY(w:Tq):pT Wg fc c w [4* 4294967296] (2* 4294967296)=pR Wg fc c w [4* 4294967296] (2* 4294967296):=by kernel_rfl
theorem OR(w:Tq):pT Wg fc c w [2* 4294967296,4* 4294967296] (1* 4294967296)=pR Wg fc c w [2* 4294967296,4* 4294967296] (1* 4294967296):=by kernel_rfl
theorem OU(w:Tq):pT Wg fc c w [4* 4294967296] (1* 4294967296)=pR Wg fc c w [4* 4294967296] (1* 4294967296):=by kernel_rfl
theorem OZ(w:Tq):pT Wg fc c w [] (3* 4294967296)=pR Wg fc c w [] (3* 4294967296):=by kernel_rfl
theorem OW(w:Tq):pT Wg fc c w [3* 4294967296] (2* 4294967296)=pR Wg fc c w [3* 4294967296] (2* 4294967296):=by kernel_rfl
theorem OP(w:Tq):pT Wg fc c w [2* 4294967296,3* 4294967296] (1* 4294967296)=pR Wg fc c w [2* 4294967296,3* 4294967296] (1* 4294967296):=by kernel_rfl
theorem OS(w:Tq):pT Wg fc c w [3* 4294967296] (1* 4294967296)=pR Wg fc c w [3* 4294967296] (1* 4294967296):=by kernel_rfl
theorem OV(w:Tq):pT Wg fc c w [] (2* 4294967296)=pR Wg fc c w [] (2* 4294967296):=by kernel_rfl
theorem OO(w:Tq):pT Wg fc c w [2* 4294967296] (1* 4294967296)=pR Wg fc c w [2* 4294967296] (1* 4294967296):=by kernel_rfl
theorem ON(w:Tq):pT Wg fc c w [] (1* 4294967296)=pR Wg fc c w [] (1* 4294967296):=by kernel_rfl
end
section
variable {P:SI}{Wg:Nat}{Stop:Nat->SG->Prop}
theorem RM{n d d':Nat}{g:SG}(h:∀w,fy w n d g=fx w n d' g):(∀w,fP SA false w n g=fH SA false w n g)/\ja SA false n g=true/\bW (cG SA false n g)=true/\jS SA false n d g=d':=
 ⟨λw=>(d_ (h w)).1,(d_ (h default)).2.1,(d_ (h default)).2.2.1,(d_ (h default)).2.2.2⟩
theorem ym{n d d':Nat}{g:SG}(h:∀w,fy w n d g=fx w n d' g)(hs:∃m,cT SA Stop m d' (cG SA false n g)):∃m,cT SA Stop m d g:=by
 obtain⟨h1,h2,_,h4⟩:=RM h;exact xH n d g h1 h2 (by rw[h4];exact hs)
theorem KM{n d d':Nat}{g:SG}(h:∀w,fy w n d g=fx w n d' g)(hs:∃m,im SA Wg Stop m d' (cG SA false n g)):∃m,im SA Wg Stop m d g:=by
 obtain⟨h1,h2,_,h4⟩:=RM h;exact adV n d g h1 h2 (by rw[h4];exact hs)
theorem aiR{n:Nat}{g:SG}(h:∀w,AE w n g=AD w n g):∃q,Zf SA q 0 g:=
 IR n 0 g (λw=>(d_ (h w)).1) (d_ (h default)).2.1 (O6 (d_ (h default)).2.2.1 (d_ (h default)).2.2.2)
theorem asd{d:Nat}{g g':SG}{es:Array Uu}(hr:g.status=.running)(hm:∀e∈es,WK e=true)(h:∀w,stepG P false g w=.go g' w es)(hs:∃m,im P Wg Stop m (deafBehind d es) g'):∃m,im P Wg Stop m d g:=by
 obtain⟨m,fY⟩:=hs;exact⟨m+1,.inr ⟨hr,g',es,hm,λw _ _ _=>h w,fY⟩⟩
end
set_option maxRecDepth 100000
theorem t173:(SA.underlying 139).map TypeDesc.agg=some false:=by kernel_rfl
theorem O7{g:SG}{o:Tx}(h:ready g=some o):bW g=true:=by
 obtain⟨_,_,_,_,_,_,_,_,_,_,_,_,_,_,hr⟩:=ready.out h;unfold bW;rw[hr]
theorem As{g:SG}{f:TY}{vs:Array SP}(h:cy g=some (f,vs)):bW g=true:=by
 obtain⟨_,_,_,h1,_,_⟩:=cy.out h;exact O7 h1
theorem Q9{g:SG}{s d:TypeId}{v:SP}(h:pA g=some (s,d,v)):bW g=true:=by
 unfold pA at h;split at h
 ·rename_i ho;exact O7 ho
 ·cases h
theorem aov{g:SG}{t:TypeId}{v:SP}(h:vS g=some (t,v)):bW g=true:=by
 unfold vS at h;split at h
 ·rename_i ho;exact O7 ho
 ·cases h
section
variable {Wg fc c:Nat}{Im:cC}
theorem Qf{n:Nat}{g:SG}(hi:Im fc 0=some (.chan (some c)))(h1:cy g=some (123,#[pW Wg 0])) (h3:∀w,fy w n 0 (fin g (.tuple #[]))=fx w n 0 (fin g (.tuple #[])))
  (h4:vS (cG SA false n (fin g (.tuple #[])))=some (139,pW fc 0)) (h5:qZ (cG SA false n (fin g (.tuple #[])))=true)
  (h6:yi (fin (cG SA false n (fin g (.tuple #[]))) (.chan (some c)))=some (.chan (some c))) (h7:qZ (fin (cG SA false n (fin g (.tuple #[]))) (.chan (some c)))=true) (h8:bW (fin (cG SA false n (fin g (.tuple #[]))) (.chan (some c)))=true)
  (h9:mayWake SA (fin (cG SA false n (fin g (.tuple #[]))) (.chan (some c)))=true) (h10:∀w,AE w 4 (fin (fin (cG SA false n (fin g (.tuple #[]))) (.chan (some c))) (.tuple #[]))=AD w 4 (fin (fin (cG SA false n (fin g (.tuple #[]))) (.chan (some c))) (.tuple #[]))):uA SA Im c Wg 0 g:=by
 refine⟨rfl,bW.out (As h1),_,λw=>I3 .acquire (λ_ _ h=>by cases h) h1 aiv,?_⟩;refine ym h3 ⟨0,rfl,bW.out (aov h4),fc,0,_,_,hi,λw hc=> ?_,0,rfl,bW.out h8,h9,_,λw s hw=> ?_,aiR h10⟩
 ·obtain⟨d,cQ,kq⟩:=Ts.1 t173;exact asu h4 cQ kq (by simpa[qZ]using h5) hc
 ·exact ast h6 (by simpa[qZ]using h7) hw
theorem abW{n1 n2:Nat}{g:SG}(h1:∀w,fy w n1 1 g=fx w n1 1 g)(h2:cy (cG SA false n1 g)=some (112,#[])) (h3:∀w,fy w n2 0 (fin (cG SA false n1 g) (.tuple #[]))=fx w n2 0 (fin (cG SA false n1 g) (.tuple #[])))
  (h4:pA (cG SA false n2 (fin (cG SA false n1 g) (.tuple #[])))=some (158,160,pW Wg 0)) (h5:uA SA Im c Wg 0 (fin (cG SA false n2 (fin (cG SA false n1 g) (.tuple #[]))) (pW Wg 0))):∃n,im SA Wg (uA SA Im c Wg) n 1 g:=by
 refine KM h1 ?_;refine asd (bW.out (As h2)) (Oo (.inr rfl)) (λw=>I2 (λ_ h=>by cases h) h2 ais) ?_;refine KM (d:=deafBehind 1 #[⟨.mark .enable,false,true⟩]) h3 ?_;exact adW (bW.out (Q9 h4)) (λw x y hW=>I4 h4 aeO I_ i182 hW.st.1) ⟨0,h5⟩
theorem aup{h:SG}(hi:Im fc 0=some (.chan (some c)))(H:∀w,zT Wg c w h=zR Wg fc c w h):cy h=some (135,#[pW Wg 0])/\∃n,im SA Wg (uA SA Im c Wg) n 1 (fin h (.int .u64 0)):=by
 have key:∀w,cy h=some ((135:TY),#[pW Wg 0])/\bW h=true/\fy w 31 1 (fin h (.int .u64 0))=fx w 31 1 (fin h (.int .u64 0))/\cy (z9 h)=some ((112:TY),(#[]:Array SP))/\fy w 3 0 (fin (z9 h) (.tuple #[]))=fx w 3 0 (fin (z9 h) (.tuple #[]))/\pA (PX h)=some ((158:TypeId),(160:TypeId),pW Wg 0)/\cy (wa Wg h)=some ((123:TY),#[pW Wg 0])/\bW (wa Wg h)=true/\fy w 22 0 (fin (wa Wg h) (.tuple #[]))=fx w 22 0 (fin (wa Wg h) (.tuple #[]))/\vS (FD Wg h)=some ((139:TypeId),pW fc 0)/\qZ (FD Wg h)=true/\yi (wb Wg c h)=some (X2 (some c))/\qZ (wb Wg c h)=true/\bW (wb Wg c h)=true/\mayWake SA (wb Wg c h)=true/\AE w 4 (Ju Wg c h)=AD w 4 (Ju Wg c h):=λw=>by
  have:=H w;unfold zT zR at this;simpa only[Vb]using this
 obtain⟨k1,k2,_,k4,_,k6,k7,k8,_,EA,NP,BB,NQ,EB,NR,_⟩:=key default;refine⟨k1,abW (n1:=31) (n2:=3) (λw=>(key w).2.2.1) k4 (λw=>(key w).2.2.2.2.1) k6 ?_⟩;exact Qf (n:=22) hi k7 (λw=>(key w).2.2.2.2.2.2.2.2.1) EA NP BB NQ EB NR (λw=>(key w).2.2.2.2.2.2.2.2.2.2.2.2.2.2.2)
theorem ahJ{b:SG}{v:Nat}(hv:0<v)(hi:Im fc 0=some (.chan (some c)))(H:∀w,fT Wg c w b=fR Wg fc c w b ((v:Int)* 4294967296))(hm:∃n,cT SA (eM SA Im c Wg v) n 1 (Oi b)):FF SA c Wg Im v 1 b:=by
 have key:∀w,cy b=some ((137:TY),#[pW Wg 0,.int .u64 ((v:Int)* 4294967296),.int .u64 ((v:Int)* 4294967296+1)])/\bW b=true/\fy w 25 1 (fin b (.bool false))=fx w 25 1 (fin b (.bool false))/\fy w 19 1 (fin b (.bool true))=fx w 19 1 (fin b (.bool true))/\pA (f96 b)=some ((165:TypeId),(160:TypeId),pW Wg 1)/\cy (f97 Wg b)=some ((126:TY),#[pW Wg 1])/\bW (f97 Wg b)=true/\fy w 23 1 (fin (f97 Wg b) (.tuple #[]))=fx w 23 1 (fin (f97 Wg b) (.tuple #[]))/\cy (f121 Wg b)=some ((127:TY),#[pW Wg 1,.bool false])/\(f121 Wg b).offers=none/\fy w 16 1 (fin (f121 Wg b) (.tuple #[]))=fx w 16 1 (fin (f121 Wg b) (.tuple #[]))/\cy (f138 Wg b)=some ((135:TY),#[pW Wg 0])/\fy w 11 1 (fin (f138 Wg b) (.int .u64 0))=fx w 11 1 (fin (f138 Wg b) (.int .u64 0))/\cy (f150 Wg b)=some ((112:TY),(#[]:Array SP))/\fy w 3 0 (fin (f150 Wg b) (.tuple #[]))=fx w 3 0 (fin (f150 Wg b) (.tuple #[]))/\pA (f154 Wg b)=some ((158:TypeId),(160:TypeId),pW Wg 0)/\cy (f155 Wg b)=some ((123:TY),#[pW Wg 0])/\bW (f155 Wg b)=true/\fy w 12 0 (fin (f155 Wg b) (.tuple #[]))=fx w 12 0 (fin (f155 Wg b) (.tuple #[]))/\vS (f168 Wg b)=some ((139:TypeId),pW fc 0)/\qZ (f168 Wg b)=true/\yi (f169 Wg c b)=some (X2 (some c))/\qZ (f169 Wg c b)=true/\bW (f169 Wg c b)=true/\mayWake SA (f169 Wg c b)=true/\AE w 4 (f170 Wg c b)=AD w 4 (f170 Wg c b):=λw=>by
  have:=H w;unfold fT fR at this;simpa only[Vb]using this
 obtain⟨k1,k2,_,_,k5,k6,k7,_,k9,EA,_,BB,_,EB,_,NS,NT,k18,_,NU,NV,NW,NX,NY,NZ,_⟩:=key default;refine⟨rfl,bW.out k2,⟨_,λw hW=>asr k1 RF hW.st.1 hW.st.2.2.1,?_⟩,λu hu=>⟨_,λw hW=>ass k1 RF hW.st.1 hW.st.2.2.1 (λe=> ?_),?_⟩⟩
 ·refine KM (λw=>(key w).2.2.2.1) ?_;have hs:SA.underlying 165=some (.pointer (Ja.choose))/\(SA.info? Ja.choose).map (λi=>decide (i.size=0))=some false:=Ja.choose_spec;refine adW (bW.out (Q9 k5)) (λw x y hW=>I4 k5 hs.1 I_ hs.2 hW.st.2.1) ⟨0,rfl,bW.out k7,_,λw=>I3 .write (λ_ _ h=>by cases h) k6 aiw,?_⟩;refine ym (λw=>(key w).2.2.2.2.2.2.2.1) ⟨0,rfl,bW.out (As k9),EA,λw st hW=> ?_,fin (f121 Wg b) (.tuple #[]),λw hW=> ?_,?_⟩
  ·exact asx k9 RD hW.st.2.1
  ·exact asv (n:=1) k9 RD hW.st.2.1 (by decide) hW.st.2.2.2
  ·refine ym (λw=>(key w).2.2.2.2.2.2.2.2.2.2.1) ⟨0,rfl,bW.out (As BB),_,λw hW=>Pr BB KD hW.st.1,?_⟩;refine abW (n1:=11) (n2:=3) (λw=>(key w).2.2.2.2.2.2.2.2.2.2.2.2.1) EB (λw=>(key w).2.2.2.2.2.2.2.2.2.2.2.2.2.2.1) NS ?_;exact Qf (n:=12) hi NT (λw=>(key w).2.2.2.2.2.2.2.2.2.2.2.2.2.2.2.2.2.2.1) NU NV NW NX NY NZ (λw=>(key w).2.2.2.2.2.2.2.2.2.2.2.2.2.2.2.2.2.2.2.2.2.2.2.2.2)
 ·unfold KK at e;omega
 ·exact ym (λw=>(key w).2.2.1) hm
theorem mW(hi:Im fc 0=some (.chan (some c))){h:SG}{k:Nat}(hz:∀w,zT Wg c w h=zR Wg fc c w h)
  (hv:∀v,0<v->v<=k->v<=4->(∀w,fy w 48 1 (fin h (.int .u64 ((v:Int)* 4294967296)))=fx w 48 1 (fin h (.int .u64 ((v:Int)* 4294967296))))/\(∀w,fT Wg c w (f76 h ((v:Int)* 4294967296))=fR Wg fc c w (f76 h ((v:Int)* 4294967296)) ((v:Int)* 4294967296))/\eM SA Im c Wg v 1 (Oi (f76 h ((v:Int)* 4294967296)))):eM SA Im c Wg (k+1) 1 h:=by
 obtain⟨z1,z2⟩:=aup hi hz;rw[eM];refine⟨rfl,bW.out (As z1),λv h1 h2=> ?_⟩;refine⟨_,λw hW=>Pr z1 KD hW.st.1,λe=> ?_,λe=> ?_⟩
 ·subst e;exact z2
 ·obtain⟨q1,q2,q3⟩:=hv v (by omega) h1 h2;exact ym q1 ⟨0,ahJ (by omega) hi q2 ⟨0,q3⟩⟩
theorem dQ{l:List Int}{v:Int}(h:∀w,pT Wg fc c w l v=pR Wg fc c w l v):(∀w,fy w 48 1 (fin (hd Wg fc l) (.int .u64 v))=fx w 48 1 (fin (hd Wg fc l) (.int .u64 v)))/\(∀w,fT Wg c w (bd Wg fc l v)=fR Wg fc c w (bd Wg fc l v) v)/\(∀w,zT Wg c w (hd Wg fc (v::l))=zR Wg fc c w (hd Wg fc (v::l))):=by
 refine⟨λw=>(W8 (h w)).1,λw=>(W8 (W8 (h w)).2).1,λw=>(W8 (W8 (h w)).2).2⟩
end
section
variable (Wg fc c:Nat){Im:cC}
theorem amF(hi:Im fc 0=some (.chan (some c))):eM SA Im c Wg 1 1 (hd Wg fc [1* 4294967296]):=by
 refine mW (k:=0) hi (dQ (ON Wg fc c)).2.2 λv h1 h2 h3=> ?_;omega
theorem amG(hi:Im fc 0=some (.chan (some c))):eM SA Im c Wg 1 1 (hd Wg fc [1* 4294967296,2* 4294967296]):=by
 refine mW (k:=0) hi (dQ (OO Wg fc c)).2.2 λv h1 h2 h3=> ?_;omega
theorem amN(hi:Im fc 0=some (.chan (some c))):eM SA Im c Wg 2 1 (hd Wg fc [2* 4294967296]):=by
 refine mW (k:=1) hi (dQ (OV Wg fc c)).2.2 λv h1 h2 h3=> ?_;rcases(show v=1 by omega)with rfl
 ·exact⟨(dQ (OO Wg fc c)).1,(dQ (OO Wg fc c)).2.1,amG Wg fc c hi⟩
theorem amK(hi:Im fc 0=some (.chan (some c))):eM SA Im c Wg 1 1 (hd Wg fc [1* 4294967296,3* 4294967296]):=by
 refine mW (k:=0) hi (dQ (OS Wg fc c)).2.2 λv h1 h2 h3=> ?_;omega
theorem amH(hi:Im fc 0=some (.chan (some c))):eM SA Im c Wg 1 1 (hd Wg fc [1* 4294967296,2* 4294967296,3* 4294967296]):=by
 refine mW (k:=0) hi (dQ (OP Wg fc c)).2.2 λv h1 h2 h3=> ?_;omega
theorem amO(hi:Im fc 0=some (.chan (some c))):eM SA Im c Wg 2 1 (hd Wg fc [2* 4294967296,3* 4294967296]):=by
 refine mW (k:=1) hi (dQ (OW Wg fc c)).2.2 λv h1 h2 h3=> ?_;rcases(show v=1 by omega)with rfl
 ·exact⟨(dQ (OP Wg fc c)).1,(dQ (OP Wg fc c)).2.1,amH Wg fc c hi⟩
theorem amR(hi:Im fc 0=some (.chan (some c))):eM SA Im c Wg 3 1 (hd Wg fc [3* 4294967296]):=by
 refine mW (k:=2) hi (dQ (OZ Wg fc c)).2.2 λv h1 h2 h3=> ?_;rcases(show v=1\/v=2 by omega)with rfl|rfl
 ·exact⟨(dQ (OS Wg fc c)).1,(dQ (OS Wg fc c)).2.1,amK Wg fc c hi⟩
 ·exact⟨(dQ (OW Wg fc c)).1,(dQ (OW Wg fc c)).2.1,amO Wg fc c hi⟩
theorem amM(hi:Im fc 0=some (.chan (some c))):eM SA Im c Wg 1 1 (hd Wg fc [1* 4294967296,4* 4294967296]):=by
 refine mW (k:=0) hi (dQ (OU Wg fc c)).2.2 λv h1 h2 h3=> ?_;omega
theorem amJ(hi:Im fc 0=some (.chan (some c))):eM SA Im c Wg 1 1 (hd Wg fc [1* 4294967296,2* 4294967296,4* 4294967296]):=by
 refine mW (k:=0) hi (dQ (OR Wg fc c)).2.2 λv h1 h2 h3=> ?_;omega
theorem amQ(hi:Im fc 0=some (.chan (some c))):eM SA Im c Wg 2 1 (hd Wg fc [2* 4294967296,4* 4294967296]):=by
 refine mW (k:=1) hi (dQ (OY Wg fc c)).2.2 λv h1 h2 h3=> ?_;rcases(show v=1 by omega)with rfl
 ·exact⟨(dQ (OR Wg fc c)).1,(dQ (OR Wg fc c)).2.1,amJ Wg fc c hi⟩
theorem amL(hi:Im fc 0=some (.chan (some c))):eM SA Im c Wg 1 1 (hd Wg fc [1* 4294967296,3* 4294967296,4* 4294967296]):=by
 refine mW (k:=0) hi (dQ (OT Wg fc c)).2.2 λv h1 h2 h3=> ?_;omega
theorem amI(hi:Im fc 0=some (.chan (some c))):eM SA Im c Wg 1 1 (hd Wg fc [1* 4294967296,2* 4294967296,3* 4294967296,4* 4294967296]):=by
 refine mW (k:=0) hi (dQ (OQ Wg fc c)).2.2 λv h1 h2 h3=> ?_;omega
theorem amP(hi:Im fc 0=some (.chan (some c))):eM SA Im c Wg 2 1 (hd Wg fc [2* 4294967296,3* 4294967296,4* 4294967296]):=by
 refine mW (k:=1) hi (dQ (OX Wg fc c)).2.2 λv h1 h2 h3=> ?_;rcases(show v=1 by omega)with rfl
 ·exact⟨(dQ (OQ Wg fc c)).1,(dQ (OQ Wg fc c)).2.1,amI Wg fc c hi⟩
theorem amS(hi:Im fc 0=some (.chan (some c))):eM SA Im c Wg 3 1 (hd Wg fc [3* 4294967296,4* 4294967296]):=by
 refine mW (k:=2) hi (dQ (O0 Wg fc c)).2.2 λv h1 h2 h3=> ?_;rcases(show v=1\/v=2 by omega)with rfl|rfl
 ·exact⟨(dQ (OT Wg fc c)).1,(dQ (OT Wg fc c)).2.1,amL Wg fc c hi⟩
 ·exact⟨(dQ (OX Wg fc c)).1,(dQ (OX Wg fc c)).2.1,amP Wg fc c hi⟩
theorem amT(hi:Im fc 0=some (.chan (some c))):eM SA Im c Wg 4 1 (hd Wg fc [4* 4294967296]):=by
 refine mW (k:=3) hi (dQ (O1 Wg fc c)).2.2 λv h1 h2 h3=> ?_;rcases(show v=1\/v=2\/v=3 by omega)with rfl|rfl|rfl
 ·exact⟨(dQ (OU Wg fc c)).1,(dQ (OU Wg fc c)).2.1,amM Wg fc c hi⟩
 ·exact⟨(dQ (OY Wg fc c)).1,(dQ (OY Wg fc c)).2.1,amQ Wg fc c hi⟩
 ·exact⟨(dQ (O0 Wg fc c)).1,(dQ (O0 Wg fc c)).2.1,amS Wg fc c hi⟩
theorem hq_(hi:Im fc 0=some (.chan (some c))):eM SA Im c Wg 5 1 (hd Wg fc []):=by
 refine mW (k:=4) hi (zz Wg fc c) λv h1 h2 h3=> ?_;rcases(show v=1\/v=2\/v=3\/v=4 by omega)with rfl|rfl|rfl|rfl
 ·exact⟨(dQ (ON Wg fc c)).1,(dQ (ON Wg fc c)).2.1,amF Wg fc c hi⟩
 ·exact⟨(dQ (OV Wg fc c)).1,(dQ (OV Wg fc c)).2.1,amN Wg fc c hi⟩
 ·exact⟨(dQ (OZ Wg fc c)).1,(dQ (OZ Wg fc c)).2.1,amR Wg fc c hi⟩
 ·exact⟨(dQ (O1 Wg fc c)).1,(dQ (O1 Wg fc c)).2.1,amT Wg fc c hi⟩
theorem ahT(hi:Im fc 0=some (.chan (some c))):Jy SA Im c Wg (born SA ⟨.fn (.func 100) #[pW Wg 0,pW fc 0],#[]⟩):=by
 have h0:∀w,fy w 7 0 (e0 Wg fc)=fx w 7 0 (e0 Wg fc)/\cy (e7 Wg fc)=some ((111:TY),(#[]:Array SP))/\fy w 19 1 (e8 Wg fc)=fx w 19 1 (e8 Wg fc):=λw=>by
  have:=c0 Wg fc w;simpa only[Vb]using this
 show ∃n,cT SA (eM SA Im c Wg 5) n 0 (e0 Wg fc);refine ym (λw=>(h0 w).1) ?_;refine Pn (bW.out (As (h0 default).2.1)) (Oo (.inl rfl)) (λw=>I2 (λ_ h=>by cases h) (h0 default).2.1 KC) ?_;exact ym (d:=deafBehind 0 #[⟨.mark .disable,false,true⟩]) (λw=>(h0 w).2.2) ⟨0,hq_ Wg fc c hi⟩
end
open Go.Gg.Tk
section
variable {lv:Bool}{P:SI}{r:Option Nat}{nt:Nat}{E:Env}{V:View}{a:Act}{s:AS}{c:Uc}{Q:Ex->Act->View->Prop}
theorem Ap(s3:AS)(ai:At E V s a nt)(h:aR lv P r nt c s (λe s'=>match e with|.normal=>s'.Sub s3|_=>False))(hQ:∀E' V' a',Kept E E' V V' a a'->At E' V' s3 a' nt->Q .normal a' V'):WP lv P r c Q a V:=
 h E V a Q ai λae e E' V' a' s' hk aV he hΦ=>by
  cases ae<;>cases e<;>first
   |exact he.elim
   |exact hΦ.elim
   |exact hQ E' V' a' hk (aV.sub hΦ)
theorem unwind_mark{lv:Bool}{P:SI}{main:Bool}{J:View->SG->Prop}(C:Closed lv P main J){V:View}{fr:Ug}{cs:List Ug}{b:Nat}{ds:List U8}(h4:fr.defers={target:=.collected b,args:=#[]}::ds) (hm:(fr.mode matches .run)=false) (ho:V.own b=some (.deferred (some []))) (ff:V.role.chan≠some b) (h:J (V.upd b (.deferred none)) (G {fr with defers:=ds} cs)):J V (G fr cs):=by
 refine C.step _ _ rfl λw hw=> ?_;obtain⟨es,w',V',k1,k2,k3⟩:=(Pf (P:=P) ho ff).runs hw;rcases k3 with⟨x,k3,rfl,rfl⟩|⟨_,_,hx⟩
 ·refine⟨G {fr with defers:=ds} cs,w',seen P fr.fn es,_,?_,k1.seen P fr.fn,h⟩;have e:stepG P main (G fr cs) w=unwind P main fr cs none w:=by
   obtain⟨fn,tmps,todo,defers,mode,kind,ro⟩:=fr;cases mode with
   |run=>cases hm
   |returning=>simp[G,stepG]
   |panicking ch=>simp[G,stepG]
  rw[e];simp only[unwind,h4];simp[TE,k3,k2,T_,G]
 ·exact hx.elim
theorem dW{s s':AS}(h:∀p∈s'.T,∃b,look s.T p.1=some b/\Wk b p.2)(hH:s.H=s'.H):s.Sub s':=⟨λ_ _ e=>h _ (o5 e),hH⟩
theorem uR{E:Env}{x v:SP}(h:ap E (.val x) v):v=x:=by cases h;rfl
theorem Gl{E:Env}{cs:Array SP}(h:cK E [] cs):cs=#[]:=Array.size_eq_zero_iff.1 h.1
theorem Rq{E:Env}{l:List SP}{cs:Array SP}(h:cK E (l.map .val) cs):cs=l.toArray:=by
 have hs:cs.size=l.length:=by simpa using h.1
 refine Array.ext hs λi h1 h2=> ?_;have hi:i<l.length:=by simpa using h2
 have:=uR (h.2 i (.val l[i]) (by simp[SY hi]));rw[SH,SJ h1]at this;simpa using this
def sr (K:Kn)(b:Nat):List SP:=.bool K.has:: .map (some b)::(K.az.map (λn:Nat=>SF .u16 n)++(K.hours.map (λn:Nat=>SF .u16 n)++(K.less.map (λn:Nat=>SF .u16 n)++(K.aW.map (λn:Nat=>SF .u16 n)++K.first.map (SF .i64)))))
def sq (K:Kn):Obj:=.map (K.aL.zipIdx.map eG).toArray K.aL.length
theorem ah9{E:Env}{K:Kn}{mp:Nat}{v:SP}(h:ap E (.agg (K.l mp)) v):v=.agg (sr K (E.blk mp)).toArray:=by
 cases h with
 |agg hs h=>
  rename_i cs;congr 1;have hl:(K.l mp).length=(sr K (E.blk mp)).length:=by simp[Kn.l,sr]
  have key:∀(i:Nat)(x:AV),(K.l mp)[i]?=some x->∀y,ap E x y->(sr K (E.blk mp))[i]?=some y:=by
   intro i x hx y hy
   match i with
   |0=>cases hx;rw[uR hy];rfl
   |1=>cases hx;cases hy;rfl
   |i+2=>
    have e:(K.l mp)[i+2]?=((K.az.map (λn:Nat=>SF .u16 n)++(K.hours.map (λn:Nat=>SF .u16 n)++(K.less.map (λn:Nat=>SF .u16 n)++(K.aW.map (λn:Nat=>SF .u16 n)++K.first.map (SF .i64))))).map AV.val)[i]?:=by
     simp[Kn.l,wv,iv,YF]
    rw[e,Tp]at hx;obtain⟨z,h1,rfl⟩:=Ts.1 hx;rw[uR hy];exact h1
  have pP:cs.size=(sr K (E.blk mp)).length:=hs.trans hl;refine Array.ext pP λi h1 h2=> ?_;have hi:i<(K.l mp).length:=by omega
  have:=key i _ (SY hi) _ (h i _ (SY hi));rw[SH,SJ h1]at this;have h3:(sr K (E.blk mp)).toArray[i]?=some cs[i]:=by simpa using this
  rw[SJ h2]at h3;exact(Wb h3).symm
def ri (x:ak)(deep:Int)(bt:Nat):Spec:=λv _ Ow=>∃b,v=.agg (sr (gR x deep bt) b).toArray/\∀b',Ow b'=if b'=b then some (sq (gR x deep bt))else none
set_option maxRecDepth 100000 in
theorem aqi:SA.funcs.size=184:=by kernel_rfl
theorem PM{x:ak}{deep:Int}{bt:Nat}(hx:x.Ok)(hA:∀h∈jW x bt,mM h/\∀ns∈f_ x h,∀a∈(iD x h ns).map (dC h ns),jB x a):bR (gR x deep bt):=by
 unfold gR;refine Li hx (λt ht=> ?_) EC;obtain⟨h,h1,h2⟩:=S4.1 ht;obtain⟨ns,h3,h4⟩:=PF h2;exact(hA h h1).2 ns h3 t h4
theorem aud{J:View->SG->Prop}(C:z_ SA false J){E:Env}{V:View}{x:ak}{bt c Wg:Nat}{deep:Int}{rv tv dv fv:SP}(hx:x.Ok)(lZ:bt<=3)(hA:∀h∈jW x bt,mM h/\∀ns∈f_ x h,∀a∈(iD x h ns).map (dC h ns),jB x a)(alz:Conc E V [])
  (hr:ap E (.rp x.l) rv) (ht:ap E (.rp [iv bt]) tv) (hd:ap E (.rp [iv deep]) dv) (hf:ap E (.rp [.val (.chan (some c))]) fv) (cq:V.role=.work c Wg [ri x deep bt]) (fg:V.deaf=0):J V (born SA ⟨.fn (.func 97) #[pW Wg 0,rv,tv,dv,fv],#[]⟩):=by
 have C':Closed false SA false J:={C with more:=λh=>by cases h};unfold born;rw[aqi];refine aeR C' (fr:={(default:Ug)with fn:=184,defers:=[⟨.fn (.func 97) #[pW Wg 0,rv,tv,dv,fv],#[]⟩],mode:=.panicking [goexitEntry]}) (ds:=[]) rfl rfl (by kernel_rfl) ?_;refine aiF (Q:=λa' V'=>∃b,a'.defers=[{target:=.collected b,args:=#[]},⟨.fn (.func 98) #[],#[pW Wg 0]⟩]/\V'.own b=some (.deferred (some []))/\V'.role=.work c Wg []/\V'.deaf=0) C' (by simp) F.f97 rfl ?_ ?_
 rotate_left
 ·rintro a' V' todo ⟨b,h1,h0,h2,h3⟩
  refine unwind_mark C' (ds:=[⟨.fn (.func 98) #[],#[pW Wg 0]⟩]) h1 rfl h0 (by rw[h2];simp[nm.chan]) ?_;refine aeR C' (ds:=[]) rfl rfl (by kernel_rfl) ?_;exact aik Wg a'.tmps todo C h2 h3
 have cN:cK E [.val (pW Wg 0),.rp x.l,.rp [iv bt],.rp [iv deep],.rp [.val (.chan (some c))]] (#[]++#[pW Wg 0,rv,tv,dv,fv]):=by
  refine⟨rfl,λi a e=> ?_⟩
  match i,e with
  |0,e=>cases e;exact .val _
  |1,e=>cases e;exact hr
  |2,e=>cases e;exact ht
  |3,e=>cases e;exact hd
  |4,e=>cases e;exact hf
 have ai:=CR (nt:=25) alz cN (by simp);simp only[bp,SU]at ai;refine wp_seq ?_;refine(QI (nt:=25) (n:=0) (ds:=[]) (Φ:=λe s' nI=>e=.normal/\s'=⟨[(0,.val (pW Wg 0)),(1,.rp x.l),(2,.rp [iv bt]),(3,.rp [iv deep]),(4,.rp [.val (.chan (some c))])],[]⟩/\nI=[(.fn (.func 98) [] [],[.val (pW Wg 0)])]) rfl rfl rfl rfl rfl rfl (by kernel_rfl) ?_) E V _ _ ai trivial λae e E1 V1 a1 s1 ds1 iK wO cQ DL h1=> ?_
 ·(try simp only[seval]);exact⟨_,_,_,rfl⟩
 obtain⟨rfl,rfl,rfl⟩:=h1;cases e<;>first
  |exact DL.elim
  |skip
 have alI:a1.defers=[⟨.fn (.func 98) #[],#[pW Wg 0]⟩]:=by
  match jl:a1.defers,cQ with
  |[d],cQ=>
   obtain⟨⟨f,first,cU,fa,ca,vs,q1,rfl,q3,q4,q5⟩,_⟩:=cQ;cases q1;rw[Gl q3,Gl q4,Rq (l:=[pW Wg 0]) q5];rfl
  |[],cQ=>exact cQ.elim
  |_::_::_,cQ=>exact cQ.2.elim
 refine wp_seq ?_;refine Ap ⟨[(5,.op 1 0),(0,.val (pW Wg 0)),(1,.rp x.l),(2,.rp [iv bt]),(3,.rp [iv deep]),(4,.rp [.val (.chan (some c))])],[setH [],.cells (Kn.zero.l 0) 88]⟩ wO ?_ λE2 V2 a2 cI u_=> ?_
 ·refine aj ?_;exact dW (by simp only[seval];simp[bk,Wk.refl]) rfl
 refine wp_seq (wp_seq ?_);refine Ap ⟨vL x bt deep c (pW Wg 0),xk x bt Kn.zero⟩ u_ ?_ λE3 V3 a3 w9 qE=> ?_
 ·have bU:x.l=[iv x.first,iv x.hours,iv x.am,c_ x.seen,aN x.pieces,aN x.aC]:=rfl;refine ab ?_;simp only[seval,bU];refine aK ((KW (x:=x) (n:=bt) ?_));(try simp only[seval]);exact dW (by unfold vL;simp only[seval];simp[bk,Wk.refl];exact Wk.refl _) rfl
 have alJ:a3.defers=[⟨.fn (.func 98) #[],#[pW Wg 0]⟩]:=w9.defers.trans (cI.defers.trans alI);have amU:V3.role=.work c Wg [ri x deep bt]:=w9.role.trans (cI.role.trans (iK.role.trans cq));have alD:V3.deaf=0:=w9.deaf.trans (cI.deaf.trans (iK.deaf.trans fg));refine anB (lv:=false) (bs:=[⟨.fn (.func 98) #[],#[pW Wg 0]⟩]) hx lZ hA (λe s' cF=>e=.normal/\s'=⟨vL x bt deep c (pW Wg 0),xk x bt (gR x deep bt)++[.obj (.deferred (some [])),.gone]⟩/\cF=[4]) ⟨rfl,rfl,rfl⟩ E3 V3 a3 _ qE ⟨by simp[alJ],by simp⟩ λae e E4 V4 a4 s4 ms4 rY rU amg he4 hΦ4=> ?_;obtain⟨rfl,rfl,rfl⟩:=hΦ4;cases e<;>first
  |exact he4.elim
  |skip
 have alK:a4.defers=[{target:=.collected (E4.blk 4),args:=#[]},⟨.fn (.func 98) #[],#[pW Wg 0]⟩]:=amg.1;have amV:V4.role=.work c Wg [ri x deep bt]:=rY.role.trans amU;have aaL:V4.deaf=0:=rY.deaf.trans alD;have yD:bR (gR x deep bt):=PM hx hA;generalize hW:gR x deep bt=W at rU yD;have tI:=Kn.len yD 0;refine Jk (K:=λs'=>look s'.T 23=some (.val (.chan (some c)))/\look s'.T 24=some (.agg (W.l 0))/\s'.Sub ⟨vL x bt deep c (pW Wg 0),xk x bt W++[.obj (.deferred (some [])),.gone]⟩) 2 1 rfl (by kernel_rfl) rU ?_ λE5 V5 a5 s5 gr ko hK=> ?_
 ·unfold vL xk;(try simp only[seval,tI]);rw[SW (i:=28) (by omega)];exact⟨rfl,dW (by simp only[seval];simp[bk,Wk.refl]) rfl⟩
 obtain⟨l23,l24,lY⟩:=hK;have GU:=ko.sub lY;have e23:a5.eval (.tmp 23)=.chan (some c):=uR (ko.tok _ _ l23).2;have e24:a5.eval (.tmp 24)=.agg (sr W (E5.blk 0)).toArray:=ah9 (ko.tok _ _ l24).2;have h0:V5.own (E5.blk 0)=some (sq W):=(GU.bz.obj 0 (setH W.aL) rfl).1;have h4:V5.own (E5.blk 4)=some (.deferred (some [])):=(GU.bz.obj 4 (.obj (.deferred (some []))) rfl).1;have aH:E5.blk 4≠E5.blk 0:=λe=>by rw[e,h0]at h4;cases h4
 have hb4:E5.blk 4=E4.blk 4:=gr.le.blk 4 (by rw[rU.bz.n];simp[xk]);refine PQ rfl rfl ?_;refine⟨c,Wg,ri x deep bt,[],λb=>decide (b=E5.blk 0),e23,by rw[gr.role];exact amV,gr.deaf.trans aaL,⟨E5.blk 0,by rw[hW];exact e24,λb'=> ?_⟩,?_⟩
 ·rw[hW];by_cases hb:b'=E5.blk 0
  ·subst hb;simp[h0]
  ·simp[hb]
 ·refine⟨trivial,E5.blk 4,?_,?_,rfl,gr.deaf.trans aaL⟩
  ·rw[hb4];exact gr.defers.trans alK
  ·show (if decide (E5.blk 4=E5.blk 0)=true then none else V5.own (E5.blk 4))=_;rw[if_neg (by simpa using aH)];exact h4
theorem apW(r:Option Nat):AV.parts (.val (.chan r))=some [.val (.chan r)]:=rfl
theorem aus(r:Option Nat):mc (.chan r)=[.val (.chan r)]:=rfl
theorem anX(r:Option Nat):AV.leaf (.val (.chan r))=true:=rfl
theorem PN{x y:Uc}{t:Nat}{b:Bool}(ai:At E V s a nt)(hl:look s.T t=some (.val (.bool b)))(h:WP lv P r (if b then x else y) Q a V):WP lv P r (.cond (.tmp t) x y) Q a V:=by
 have hd:=(ai.tok t _ hl).2;generalize hx:a.tmps.getD t undef=v at hd;cases hd;exact wp_cond (t:=b) hx h
end
theorem Rm{E:Env}{f:Fn}{first cU:List AV}{v:SP}(h:ap E (.fn f first cU) v):∃fa ca,v=.func f fa ca/\cK E first fa/\cK E cU ca:=by
 cases h with
 |fn dT fZ h1 h2=>exact⟨_,_,rfl,⟨dT,h1⟩,⟨fZ,h2⟩⟩
theorem C4{E:Env}{i o:Nat}{v:SP}(h:ap E (.op i o) v):v=.pointer (some ⟨E.blk i,o,none⟩):=by cases h;rfl
theorem Ih(x:ak)(n:Nat):∀a∈x.l,Lt n a:=by
 intro a ha;simp only[ak.l,SK,SZ,or_false]at ha;rcases ha with rfl|rfl|rfl|rfl|rfl|rfl
 ·exact .val _
 ·exact .val _
 ·exact .val _
 ·rw[acj];trivial
 ·rw[Ig];trivial
 ·rw[Ig];trivial
theorem aoE(x:ak):Lt 0 (.rp x.l):=by
 rw[zv];exact Ih x 0
set_option maxRecDepth 100000 in
theorem wgT:PJ SA=147:=by kernel_rfl
def ci:Uc->Uc
 |.block _ c|.loop c|.scope c=>c
 |_=> .skip
noncomputable def vO:Uc:=XX.body.getD .skip
noncomputable def mC:Uc:=cs (cs (cs vO))
def th:Obj:=.chan 0 #[] false 0 0 false
def jx:List AV:=bv false:: .val (.map none)::(TO 15 (wv 0)++TO 11 (iv 0))
def dx (x:ak)(deep:Int)(c:Nat):List aa:=[.part 6 x.l 76,.part 1 [iv deep] 3,.cells jx 88,.part 1 [.val (.chan (some c))] 139,.gone]
structure jA (x:ak)(deep:Int)(Hs:List aa)(E:Env)(c Wg:Nat)(rv dv fv:SP)(T:List (Nat×AV))(M:List aa)(E':Env)(V':View)(a':Act):Prop where
 ai:At E' V' ⟨T,Hs++(dx x deep c++M)⟩ a' 35
 lo:E.Lo E'
 main:E'.main=false
 defers:a'.defers=[]
 deaf:V'.deaf=0
 er:rv=.pointer (some ⟨E'.blk Hs.length,0,none⟩)
 ed:dv=.pointer (some ⟨E'.blk (Hs.length+1),0,none⟩)
 ef:fv=.pointer (some ⟨E'.blk (Hs.length+3),0,none⟩)
 dr:ap E' (.rp x.l) rv
 dd:ap E' (.rp [iv deep]) dv
 df:ap E' (.rp [.val (.chan (some c))]) fv
 fr:∀b y,E.fr b=some y->E'.fr b=some y/\b≠c/\b≠Wg
 ne:c≠Wg
section
variable {x:ak}{deep:Int}{Hs:List aa}{E:Env}{c Wg:Nat}{rv dv fv:SP}{T T':List (Nat×AV)}{M M' G:List aa}{E1 E2:Env}{V1 V2:View}{a1 a2:Act}
theorem jA.I5(h:jA x deep Hs E c Wg rv dv fv T M E1 V1 a1)(le:E1.Le E2)(bC:a2.defers=a1.defers)(fg:V2.deaf=V1.deaf)(ai:At E2 V2 ⟨T',Hs++(dx x deep c++M')⟩ a2 35):jA x deep Hs E c Wg rv dv fv T' M' E2 V2 a2:=by
 have hl:∀i,i<5->Hs.length+i<E1.n:=λi hi=>by rw[h.ai.bz.n];simp[dx];omega
 exact⟨ai,h.lo.trans le.lo,le.main.trans h.main,bC.trans h.defers,fg.trans h.deaf,by have:=le.blk _ (hl 0 (by omega));rw[UJ]at this;rw[this];exact h.er,by rw[le.blk _ (hl 1 (by omega))];exact h.ed,by rw[le.blk _ (hl 3 (by omega))];exact h.ef,h.dr.mono le,h.dd.mono le,h.df.mono le,λb y e=>by rw[le.fr];exact h.fr b y e,h.ne⟩
theorem jA.step(h:jA x deep Hs E c Wg rv dv fv T M E1 V1 a1)(hk:Kept E1 E2 V1 V2 a1 a2)(ai:At E2 V2 ⟨T',Hs++(dx x deep c++M')⟩ a2 35):jA x deep Hs E c Wg rv dv fv T' M' E2 V2 a2:=h.I5 hk.le hk.defers hk.deaf ai
theorem jA.to(T':List (Nat×AV))(M':List aa)(h:jA x deep Hs E c Wg rv dv fv T M E1 V1 a1){cd:Uc}{Q:Ex->Act->View->Prop}(hw:aR true SA none 35 cd ⟨T,Hs++(dx x deep c++M)⟩ (λe s'=>match e with|.normal=>s'.Sub ⟨T',Hs++(dx x deep c++M')⟩|_=>False))
  (hQ:∀E2 V2 a2,Kept E1 E2 V1 V2 a1 a2->jA x deep Hs E c Wg rv dv fv T' M' E2 V2 a2->Q .normal a2 V2):WP true SA none cd Q a1 V1:=
 Ap ⟨T',Hs++(dx x deep c++M')⟩ h.ai hw λE2 V2 a2 hk ai=>hQ E2 V2 a2 hk (h.step hk ai)
theorem jA.cut(h:jA x deep Hs E c Wg rv dv fv T (M++G) E1 V1 a1)(hE:E.n<=Hs.length)(hT:∀p∈T',∃b,look T p.1=some b/\Wk b p.2/\Lt (Hs.length+5+M.length) p.2)(aq:bJ (Hs++(dx x deep c++M))):jA x deep Hs E c Wg rv dv fv T' M {E1 with n:=Hs.length+5+M.length} V1 a1:=by
 have hlen:(Hs++(dx x deep c++M)).length=Hs.length+5+M.length:=by simp[dx];omega
 have hc:=h.ai.cut (s':=⟨T',Hs++(dx x deep c++M)⟩) ⟨λt a e=>by
  obtain⟨b,h1,h2,h3⟩:=hT _ (o5 e);exact⟨b,h1,h2,by rw[hlen];exact h3⟩,⟨G,by simp⟩,aq⟩
 simp only[hlen]at hc;exact⟨hc,h.lo.cut (by omega),h.main,h.defers,h.deaf,h.er,h.ed,h.ef,h.dr.trim (by rw[zv];exact Ih x _),h.dd.trim (by simp[zv,dZ]),h.df.trim (by simp[zv,dZ]),h.fr,h.ne⟩
theorem abV(hH:bJ Hs)(hM:∀z∈M,eZ (Hs.length+5+M.length) z):bJ (Hs++(dx x deep c++M)):=by
 intro y hy;have hlen:(Hs++(dx x deep c++M)).length=Hs.length+5+M.length:=by simp[dx];omega
 rw[hlen];rcases SV.1 hy with h|h
 ·exact(hH y h).mono (by omega)
 ·rcases SV.1 h with h|h
  ·simp only[dx,SK,SZ,or_false]at h;rcases h with rfl|rfl|rfl|rfl|rfl
   ·exactλa ha=>Ih x _ a ha
   ·intro a ha;simp at ha;subst ha;exact .val _
   ·intro a ha;simp only[jx,SK,SV,XG]at ha;rcases ha with rfl|rfl|⟨_,rfl⟩|⟨_,rfl⟩<;>exact .val _
   ·intro a ha;simp at ha;subst ha;exact .val _
   ·trivial
  ·exact hM y h
end
def pj (x:ak)(deep:Int)(i:Nat):List (List Spec):=(SR i).map λk=>[ri x deep k]
theorem Pp(x:ak)(deep:Int)(i:Nat):(pj x deep i).length=i:=by simp[pj]
theorem ash(x:ak)(deep:Int)(i:Nat):pj x deep (i+1)=pj x deep i++[[ri x deep i]]:=by simp[pj,UZ]
def x7 (x:ak):Prop:=∀bt,bt<=3->∀h∈jW x bt,mM h/\∀ns∈f_ x h,∀a∈(iD x h ns).map (dC h ns),jB x a
noncomputable def jF (Hs:List aa)(Wg:Nat)(n:Int)(i:Nat):List (Nat×AV):=[(16,iv i),(15,iv n),(6,.val (pW Wg 0)),(5,.op (Hs.length+3) 0),(4,.op (Hs.length+2) 0),(3,.op (Hs.length+1) 0),(2,.op Hs.length 0)]
structure wl (x:ak)(deep:Int)(Hs:List aa)(E:Env)(c Wg:Nat)(rv dv fv:SP)(i:Nat)(T:List (Nat×AV))(M:List aa)(E':Env)(V':View)(a':Act):Prop where
 ok:jA x deep Hs E c Wg rv dv fv T M E' V' a'
 role:V'.role=.fork c Wg (pj x deep i)
 GA:E'.fr c=some th
 Dc:E'.fr Wg=some (wgBlock SA ((i:Int)* 4294967296) 0)
section
variable {x:ak}{deep n:Int}{Hs:List aa}{E:Env}{c Wg i:Nat}{rv dv fv:SP}{T T':List (Nat×AV)}{M M':List aa}{E1 E2:Env}{V1 V2:View}{a1 a2:Act}
theorem wl.step(h:wl x deep Hs E c Wg rv dv fv i T M E1 V1 a1)(hk:Kept E1 E2 V1 V2 a1 a2)(hc:jA x deep Hs E c Wg rv dv fv T' M' E2 V2 a2):wl x deep Hs E c Wg rv dv fv i T' M' E2 V2 a2:=
 ⟨hc,hk.role.trans h.role,by rw[hk.le.fr];exact h.GA,by rw[hk.le.fr];exact h.Dc⟩
theorem anN(hx:x.Ok)(hA:x7 x)(AU:E.n<=Hs.length)(aq:bJ (Hs++(dx x deep c++[])))(h:wl x deep Hs E c Wg rv dv fv i (jF Hs Wg n i) [] E1 V1 a1)(hi:i<=3){cd:Uc}{Q:Ex->Act->View->Prop}(hcd:cd=cs (cs (ci (ci (cs (cf mC))))))
  (hQ:∀E2 V2 a2,wl x deep Hs E c Wg rv dv fv (i+1) (jF Hs Wg n (i+1)) [] E2 V2 a2->Q .normal a2 V2):WP true SA none cd Q a1 V1:=by
 subst hcd;refine wp_seq (wp_block (wp_seq ?_));refine h.ok.to ((7,.op (Hs.length+5) 0)::jF Hs Wg n i) [.cells [iv i] 3] ?_ λE2 V2 a2 cI b_=> ?_
 ·unfold jF dx;refine aj ?_;exact dW (by simp only[seval];simp[bk,Wk.refl]) rfl
 have h2:=h.step cI b_;obtain⟨V3,g3,o3,r3,d3,H_,Kh,Ri⟩:=b_.ai.bz.IP (id:=Hs.length+5) (by rw[aZ];rfl) 1 (by simp);rw[dH]at Kh;have My:Kept E2 {E2 with I:=V3.ah} V2 V3 a2 a2:=⟨H_,rfl,rfl,r3,d3⟩;have de:=b_.step (T':=(7,.op (Hs.length+5) 0)::jF Hs Wg n i) (M':=[.part 1 [iv i] 3]) My ⟨Kh,b_.ai.tok.mono H_,b_.ai.size⟩;have h3:=h2.step My de;refine WP.ghost g3 ?_;generalize{E2 with I:=V3.ah}=E3 at H_ Kh Ri My de h3;have e6:a2.eval (.tmp 6)=pW Wg 0:=uR (de.ai.tok 6 (.val (pW Wg 0)) rfl).2;obtain⟨w1,w2,w3⟩:=de.ai.bz.fr Wg _ h3.Dc;have hrc:V3.role.chan≠some Wg:=by rw[h3.role];intro e;cases e;exact de.ne rfl
 refine wp_seq (ae1 rfl rfl (apD rfl rfl (by kernel_rfl) ?_));have cN:(#[av1 6,awb (.int .i64 1)]:Array Tl).map a2.eval=#[pW Wg 0,.int .i64 1]:=by
  simp only[List.map_toArray,U0,ZU,e6];rfl
 rw[cN];refine(af8 (n:=i) (sm:=PJ SA) (by omega) w1 w2 hrc de.deaf).mono λo V4 hV=> ?_;obtain⟨rfl,rfl⟩:=hV;dsimp only;refine auh ?_;let xO:Obj:=wgBlock SA (((i+1:Nat):Int)* 4294967296) 0;show WP true SA none _ _ (a2.put (some 19) (.tuple #[])) (V3.upd Wg xO);have tn:=de.ai.bz.akK h3.Dc xO;let f4:Nat->Option Obj:=λb'=>if b'=Wg then some xO else E3.fr b';have iU:jA x deep Hs E c Wg rv dv fv ((7,.op (Hs.length+5) 0)::jF Hs Wg n i) [.part 1 [iv i] 3] (E3.frame f4) (V3.upd Wg xO) (a2.put (some 19) (.tuple #[])):=by
  refine⟨⟨tn,λt av e=> ?_,(eg a2 (some 19) _).trans de.ai.size⟩,de.lo.trans (Env.Ie E3 f4),de.main,(put_defers a2 _ _).trans de.defers,de.deaf,de.er,de.ed,de.ef,de.dr.frame f4,de.dd.frame f4,de.df.frame f4,λb y e=> ?_,de.ne⟩
  ·have aH:t≠19:=by
    intro et;subst et;simp[jF,look]at e
   have:=((de.ai.tok.frame f4).put (d:=19) (a:=.aQ []) (v:=.tuple #[]) (by rw[de.ai.size];omega) (.aQ rfl (by simp))) t av (by simp only[look];rw[if_neg (Ne.symm aH)];exact e);exact this
  ·obtain⟨q1,q2,q3⟩:=de.fr b y e;exact⟨by show (if b=Wg then _ else _)=_;rw[if_neg q3];exact q1,q2,q3⟩
 have Ru:ap (E3.frame f4) (.rp [iv i]) (.pointer (some ⟨(E3.frame f4).blk (Hs.length+5),0,none⟩)):=by
  have hl:Hs.length+5<E2.n:=by rw[b_.ai.bz.n];simp[dx]
  have e:(E3.frame f4).blk (Hs.length+5)=E2.blk (Hs.length+5):=H_.blk _ hl;rw[e];exact Ri.frame f4
 have IU:(V3.upd Wg xO).role=.fork c Wg (pj x deep i):=h3.role;have aai:(E3.frame f4).fr c=some th:=by
  show (if c=Wg then _ else _)=_;rw[if_neg de.ne];exact h3.GA
 have aaj:(E3.frame f4).fr Wg=some xO:=by
  show (if Wg=Wg then _ else _)=_;rw[if_pos rfl]
 generalize E3.frame f4=E4 at iU Ru aai aaj;generalize V3.upd Wg xO=V4 at iU IU;generalize a2.put (some 19) (.tuple #[])=a4 at iU;clear tn;refine Jk (K:=λs'=>look s'.T 20=some (.fn (.func 97) [] [.val (pW Wg 0),.op Hs.length 0,.op (Hs.length+5) 0,.op (Hs.length+1) 0,.op (Hs.length+3) 0])/\s'.Sub ⟨jF Hs Wg n i,Hs++(dx x deep c++[.part 1 [iv i] 3])⟩) 1 1 rfl (by kernel_rfl) iU.ai ?_ λE5 V5 a5 s5 gr ko hK=> ?_
 ·unfold jF dx;(try simp only[seval,Uf,UH,Um,T1]);exact dW (by simp only[seval];simp[bk,Wk.refl]) rfl
 obtain⟨l20,lY⟩:=hK;have GU:=ko.sub lY;have b8:=iU.step gr GU;have Fb:V5.role=.fork c Wg (pj x deep i):=gr.role.trans IU;have wI:E5.fr c=some th:=by rw[gr.le.fr];exact aai
 have Dd:E5.fr Wg=some xO:=by rw[gr.le.fr];exact aaj
 have dk5:=Ru.mono gr.le;have oU:Hs.length+5<E4.n:=by rw[iU.ai.bz.n];simp[dx]
 refine PQ rfl rfl ?_;obtain⟨c1,c2,c3⟩:=b8.ai.bz.fr c _ wI;obtain⟨v1,v2,v3⟩:=b8.ai.bz.fr Wg _ Dd;have e20:a5.eval (.tmp 20)=.func (.func 97) #[] #[pW Wg 0,rv,.pointer (some ⟨E5.blk (Hs.length+5),0,none⟩),dv,fv]:=by
  obtain⟨fa,ca,q1,q2,q3⟩:=Rm (ko.tok 20 _ l20).2;rw[Gl q2]at q1;refine q1.trans ?_;have M8:ca.size=5:=q3.1;have k0:=uR (q3.2 0 _ rfl);have k1:=C4 (q3.2 1 _ rfl);have k2:=C4 (q3.2 2 _ rfl);have k3:=C4 (q3.2 3 _ rfl);have k4:=C4 (q3.2 4 _ rfl);rw[<- b8.er]at k1;rw[<- b8.ed]at k3;rw[<- b8.ef]at k4;congr 1;refine Array.ext M8 λj h1 h2=> ?_;have hj:j=0\/j=1\/j=2\/j=3\/j=4:=by omega
  rw[SH,SJ (by omega)]at k0 k1 k2 k3 k4;rcases hj with rfl|rfl|rfl|rfl|rfl
  ·exact k0
  ·exact k1
  ·exact k2
  ·exact k3
  ·exact k4
 refine⟨rfl,.tmp 20,97,#[],_,rfl,e20,b8.deaf,.inl ⟨c,Wg,pj x deep i,ri x deep i,[],Fb,c1,?_,?_,v2,λJ0 C=> ?_,?_⟩⟩
 ·rw[v1,Pp]
 ·rw[Pp];omega
 ·have hb:E5.blk (Hs.length+5)=E4.blk (Hs.length+5):=gr.le.blk _ oU;rw[hb];have:=aud (J:=J0) (V:={ah:=V5.ah,own:=λ_=>none,deaf:=0,role:=.work c Wg [ri x deep i]}) C hx hi (hA i hi) (ahW b8.ai.bz.I rfl rfl) (b8.dr.bare (aoE x)) (dk5.bare (by simp[zv,dZ])) (b8.dd.bare (by simp[zv,dZ])) (b8.df.bare (by simp[zv,dZ])) rfl rfl;simpa using this
 let V6:View:={V5 with role:=.fork c Wg (pj x deep i++[[ri x deep i]])};have Ki:Conc (E5.frame E5.fr) V6 (Hs++(dx x deep c++[.part 1 [iv i] 3])):=by
  refine b8.ai.bz.zJ (V':=V6) _ rfl (λ_ _ _ _ _ _ h=>h) (λg hg=> ?_) (λg hg=> ?_) (λhm=>by rw[b8.main]at hm;cases hm) b8.ai.bz.fr
  ·cases hg;exact⟨by show V5.own Wg≠none;rw[v1];simp,v2,v3⟩
  ·cases hg;exact⟨by show V5.own c≠none;rw[c1];simp,c2,c3⟩
 have oQ:jA x deep Hs E c Wg rv dv fv (jF Hs Wg n i) [.part 1 [iv i] 3] E5 V6 (a5.put none undef):=⟨⟨Ki,b8.ai.tok,b8.ai.size⟩,b8.lo,b8.main,b8.defers,b8.deaf,b8.er,b8.ed,b8.ef,b8.dr,b8.dd,b8.df,b8.fr,b8.ne⟩;show WP true SA none _ _ (a5.put none undef) V6;refine oQ.to (jF Hs Wg n (i+1)) [.part 1 [iv i] 3] ?_ λE7 V7 a7 oT DC=> ?_
 ·unfold jF dx;have hw:SD.wrap ((i:Int)+1)=(i:Int)+1:=bc _ (by omega);refine ab ?_;simp only[seval,hw];exact dW (by simp only[seval];simp[bk,Wk.refl]) rfl
 have fI:=jA.cut (M:=[]) (T':=jF Hs Wg n (i+1)) DC AU (by
  unfold jF;simp only[US,SZ,false_imp_iff,implies_true,and_true,look,ZJ,if_false,if_true,Tm,exists_eq_left',Wk.refl,true_and,dZ,ach,UA];omega) aq
 refine hQ _ V7 a7 ⟨fI,?_,?_,?_⟩
 ·rw[oT.role,ash]
 ·show E7.fr c=_;rw[oT.le.fr];exact wI
 ·show E7.fr Wg=_;rw[oT.le.fr];exact Dd
end
namespace Tk
theorem adc{hs:List (List Int)}{h:List Int}(hn:hs.Nodup):(jN hs h).Nodup:=by
 unfold jN;split
 ·exact hn
 ·rename_i hm;rw[Vh];exact⟨hn,by simp,λa ha b hb=>by rw[S9.1 hb];exactλe=>hm (e▸ha)⟩
theorem ath{x:ak}{deep:Int}{Q:Kn}{t:List Int}(hn:Q.aL.Nodup):(eK x deep Q t).aL.Nodup:=by
 have hB:(jR Q t).aL.Nodup:=by unfold jR;split<;>exact hn
 unfold eK;dsimp only;generalize jR Q t=R at hB;split
 ·exact hB
 ·split
  ·exact adc hB
  ·exact hB
theorem aub{x:ak}{deep:Int}{bt:Nat}:(gR x deep bt).aL.Nodup:=by
 unfold gR;have key:∀(ts:List (List Int))(Q:Kn),Q.aL.Nodup->(ts.foldl (eK x deep) Q).aL.Nodup:=by
  intro ts;induction ts with
  |nil=>exactλQ h=>h
  |cons t ts ih=>exactλQ h=>ih _ (ath h)
 exact key _ _ WR
theorem Sx:∀{l hs:List (List Int)},(∀y∈hs,y.length=4)->(∀y∈l,y.length=4)->∀y∈l.foldl jN hs,y.length=4
 |[],hs,h1,_=>h1
 |a::l,hs,h1,h2=>by rw[UV];exact Sx (ada h1 (h2 a (by simp))) (λy hy=>h2 y (by simp[hy]))
theorem IB{l m:List Nat}(h:l.length=m.length):(l9 l m).length=l.length:=by simp[l9,h]
theorem IC{l m:List Nat}(h1:∀n∈l,n<65536)(h2:∀n∈m,n<65536):∀n∈l9 l m,n<65536:=λn hn=>by
 unfold l9 at hn;rw[UY]at hn;obtain⟨i,hi⟩:=hn;rw[List.getElem?_zipWith]at hi;cases ha:l[i]?with
 |none=>rw[ha]at hi;cases hi
 |some a=>
  cases hb:m[i]?with
  |none=>rw[ha,hb]at hi;cases hi
  |some b=>
   rw[ha,hb]at hi;cases hi;exact qb (h1 _ (S6 ha)) (h2 _ (S6 hb))
theorem abM{F G:Kn}{hs:List (List Int)}(hF:bR F)(hG:bR G)(hp:hs.Perm G.aL):bR (h_ F hs G):=by
 unfold h_;split
 ·refine⟨(IB (by rw[hF.az,hG.az])).trans hF.az,(IB (by rw[hF.hours,hG.hours])).trans hF.hours,(IB (by rw[hF.less,hG.less])).trans hF.less,(IB (by rw[hF.aW,hG.aW])).trans hF.aW,?_,IC hF.mF hG.mF,IC hF.mV hG.mV,IC hF.nb hG.nb,IC hF.l_ hG.l_,Sx hF.h4 λy hy=>hG.h4 y (hp.mem_iff.1 hy)⟩;split
  ·exact hG.first
  ·exact hF.first
 ·exact hF
inductive ox (x:ak)(deep:Int):List Nat->Kn->Prop where
 |nil:ox x deep [] Kn.zero
 |snoc {js:List Nat} {F:Kn} {j:Nat} {hs:List (List Int)} (h:ox x deep js F) (hp:hs.Perm (gR x deep j).aL):ox x deep (js++[j]) (h_ F hs (gR x deep j))
end Tk
theorem x7.work{x:ak}{deep:Int}{j:Nat}(hA:x7 x)(hx:x.Ok)(hj:j<=3):bR (gR x deep j):=PM hx (hA j hj)
def nf (x:ak)(deep:Int)(n:Nat)(js:List Nat):List (List Spec):=(SR n).map λk=>if k∈js then[]else[ri x deep k]
theorem asl(x:ak)(deep:Int)(n:Nat):nf x deep n []=pj x deep n:=by simp[nf,pj]
theorem asj{x:ak}{deep:Int}{n j:Nat}{js:List Nat}{sp:Spec}{S:List Spec}(h:(nf x deep n js)[j]?=some (sp::S)):j<n/\j∉js/\sp=ri x deep j/\S=[]:=by
 unfold nf at h;rw[Tp]at h;obtain⟨k,h1,h2⟩:=Ts.1 h;have hk:j<n/\k=j:=by
  have:=SL.1 h1;obtain⟨h3,h4⟩:=this;simp at h3 h4;exact⟨h3,h4.symm⟩
 obtain⟨h3,rfl⟩:=hk;split at h2
 ·cases h2
 ·rename_i hm;cases h2;exact⟨h3,hm,rfl,rfl⟩
theorem asm{x:ak}{deep:Int}{n j:Nat}{js:List Nat}:(nf x deep n js).set j []=nf x deep n (js++[j]):=by
 apply Yw;intro k;unfold nf;rw[UX,Tp,Tp,Ta,XV];by_cases hk:k<n
 ·rw[XH hk];by_cases hj:j=k
  ·subst hj;rw[if_pos rfl,if_pos hk];simp
  ·rw[if_neg hj];have e:(k∈js++[j])<->k∈js:=by
    rw[SV,S9];exact⟨λh=>h.elim id λe=>absurd e.symm hj,.inl⟩
   simp only[UW,e]
 ·have e:(SR n)[k]?=none:=Ux (by simp;omega);rw[e];by_cases hj:j=k
  ·subst hj;rw[if_pos rfl,if_neg hk];rfl
  ·rw[if_neg hj];rfl
theorem asi{x:ak}{deep:Int}{n:Nat}{js:List Nat}(h:∀S∈nf x deep n js,S=[]):∀k,k<n->k∈js:=λk hk=>by
 apply Tv;intro hn;have:=h [ri x deep k] (Tf.2 ⟨k,by simpa using hk,by rw[if_neg hn]⟩);cases this
theorem anL{E:Env}{K:Kn}{mp b:Nat}(hb:E.blk mp=b)(hm:mp<E.n):ap E (.agg (K.l mp)) (.agg (sr K b).toArray):=by
 subst hb;refine .agg (by simp[Kn.l,sr]) λi a e=> ?_
 match i with
 |0=>cases e;exact .val _
 |1=>cases e;exact .mp hm
 |i+2=>
  have e':(K.l mp)[i+2]?=((K.az.map (λn:Nat=>SF .u16 n)++(K.hours.map (λn:Nat=>SF .u16 n)++(K.less.map (λn:Nat=>SF .u16 n)++(K.aW.map (λn:Nat=>SF .u16 n)++K.first.map (SF .i64))))).map AV.val)[i]?:=by
   simp[Kn.l,wv,iv,YF]
  rw[e',Tp]at e;obtain⟨z,h1,rfl⟩:=Ts.1 e;have h2:(sr K (E.blk mp))[i+2]?=some z:=h1;rw[SH,Vq,h2];exact .val _
theorem vN(K:Kn)(mp:Nat):∀a∈K.l mp,a.leaf=true:=λa ha=>by
 simp only[Kn.l,SK,SV,Tf]at ha;rcases ha with rfl|rfl|⟨_,_,rfl⟩|⟨_,_,rfl⟩|⟨_,_,rfl⟩|⟨_,_,rfl⟩|⟨_,_,rfl⟩<;>rfl
theorem agY{lv:Bool}{P:SI}{r:Option Nat}{nt:Nat}{E:Env}{V:View}{a:Act}{s:AS}{c:Uc}{Q:Ex->Act->View->Prop}{α:Type}(p:α->Prop)(S3:α->AS)(ai:At E V s a nt)(h:aR lv P r nt c s (λe s'=>match e with|.normal=>∃q,p q/\s'.Sub (S3 q)|_=>False))(hQ:∀q E' V' a',p q->Kept E E' V V' a a'->At E' V' (S3 q) a' nt->Q .normal a' V'):WP lv P r c Q a V:=
 h E V a Q ai λae e E' V' a' s' hk aV he hΦ=>by
  cases ae<;>cases e<;>first
   |exact he.elim
   |exact hΦ.elim
   |(obtain⟨q,h1,h2⟩:=hΦ
     exact hQ q E' V' a' h1 hk (aV.sub h2))
theorem aib{E:Env}(l:List SP):ap E (.agg (l.map .val)) (.agg l.toArray):=by
 refine .agg (by simp) λi a e=> ?_;rw[Tp]at e;obtain⟨z,h1,rfl⟩:=Ts.1 e;rw[SH,Vq,h1];exact .val _
def PZ:List SP:=.bool false:: .map none::(TO 15 (.int .u16 0)++TO 11 (.int .i64 0))
def iB (Hs:List aa)(F:Kn):List aa:=[setH F.aL,.cells (F.l (Hs.length+5)) 88]
noncomputable def jv (Hs:List aa):List (Nat×AV):=[(8,.op (Hs.length+6) 0),(5,.op (Hs.length+3) 0),(4,.op (Hs.length+2) 0)]
structure FV (x:ak)(deep:Int)(n:Nat)(Hs:List aa)(E:Env)(c Wg:Nat)(rv dv fv:SP)(js:List Nat)(F:Kn)(T:List (Nat×AV))(G:List aa)(E':Env)(V':View)(a':Act):Prop where
 ok:jA x deep Hs E c Wg rv dv fv T (iB Hs F++G) E' V' a'
 role:V'.role=.recv c Wg (nf x deep n js)
 abN:ox x deep js F
 kn:bR F
 nodup:js.Nodup
 lt:∀j∈js,j<n
noncomputable def abU:Uc:=ci (ci (cs (cs (cs mC))))
theorem anM{x:ak}{deep:Int}{Hs:List aa}{c:Nat}{F:Kn}(hH:bJ Hs):bJ (Hs++(dx x deep c++iB Hs F)):=by
 refine abV hH λz hz=> ?_;simp only[iB,SK,SZ,or_false]at hz;rcases hz with rfl|rfl
 ·trivial
 ·exact zo (by simp[iB])
theorem aoO{V:View}{Im:cC}{b:Nat}{K:Kn}{w:Tq}(hS:Sat V w)(hI:∀b o x,Im b o=some x->w.cell? ⟨b,o,none⟩=some x)(hb:w.heap[b]?=some (sq K)):∀o,V.ah b o=none/\Im b o=none:=λo=>by
 have hc:w.cell? ⟨b,o,none⟩=none:=by simp[UC,hb,sq]
 constructor
 ·cases h:V.ah b o with
  |none=>rfl
  |some v=>have:=hS.ah b o v h;rw[hc]at this;cases this
 ·cases h:Im b o with
  |none=>rfl
  |some v=>have:=hI b o v h;rw[hc]at this;cases this
section
variable {x:ak}{deep:Int}{n:Nat}{Hs:List aa}{E:Env}{c Wg:Nat}{js:List Nat}{D:Kn}{rv dv fv:SP}{T T':List (Nat×AV)}{G G':List aa}{E1 E2:Env}{V1 V2:View}{a1 a2:Act}
theorem anO(hx:x.Ok)(hA:x7 x)(hn4:n<=4)(AU:E.n<=Hs.length)(bw:bJ Hs)(h:FV x deep n Hs E c Wg rv dv fv js D (jv Hs) [] E1 V1 a1){Q:Ex->Act->View->Prop}
  (hQ:∀j D' E2 V2 a2,j∉js->FV x deep n Hs E c Wg rv dv fv (js++[j]) D' (jv Hs) [] E2 V2 a2->Q .normal a2 V2)
  (GO:∀E2 V2 a2 G,At E2 V2 ⟨[(4,.op (Hs.length+2) 0)],Hs++([.part 6 x.l 76,.part 1 [iv deep] 3,.cells (D.l (Hs.length+5)) 88,.part 1 [.val (.chan (some c))] 139,.gone,setH D.aL]++G)⟩ a2 35->E.Lo E2->a2.defers=[]->V2.deaf=0->V2.role=.plain->(∀b y,E.fr b=some y->E2.fr b=some y)->(∀k,k<n->k∈js)->Q .ret a2 V2):WP true SA none abU Q a1 V1:=by
 refine wp_block (id:=3) (wp_seq ?_);refine Jk (K:=λs'=>look s'.T 26=some (.val (.chan (some c)))/\s'.Sub ⟨jv Hs,Hs++(dx x deep c++(iB Hs D++[]))⟩) 1 7 rfl (by kernel_rfl) h.ok.ai ?_ λE3 V3 a3 s3 w9 qE hK=> ?_
 ·unfold jv dx iB;(try simp only[seval]);exact dW (by simp only[seval];simp[bk,Wk.refl]) rfl
 obtain⟨l26,lY⟩:=hK;have de:=h.ok.step w9 (qE.sub lY);have ro3:V3.role=.recv c Wg (nf x deep n js):=w9.role.trans h.role;have e26:a3.eval (.tmp 26)=.chan (some c):=uR (qE.tok 26 _ l26).2;obtain⟨ti,xg,hzi⟩:=Th.1 F.Qb;refine aug rfl rfl (.inr ?_);refine⟨rfl,c,Wg,nf x deep n js,.both,88,ti,_,e26,by kernel_rfl,xg,hzi,ro3,de.deaf,λj sp S v Im Ow r1 r2 r3 r4 r5=> ?_,λhS=> ?_⟩
 ·
  obtain⟨lS,iJ,rfl,rfl⟩:=asj r1;obtain⟨b,hv,LH⟩:=r2;have yD:bR (gR x deep j):=hA.work hx (by omega);have hWn:(gR x deep j).aL.Nodup:=aub;obtain⟨W,hW⟩:∃W,W=gR x deep j:=⟨_,rfl⟩;rw[<- hW]at hv LH yD hWn;let qp:View:={V3 with ah:=λb o=>match V3.ah b o with|some x=>some x|none=>Im b o,role:=.recv c Wg ((nf x deep n js).set j [])};obtain⟨abY,Q8⟩:=de.ai.bz.aoc (V':=qp) rfl (λb o v e=>by show (match V3.ah b o with|some x=>some x|none=>Im b o)=some v;rw[e]) (λb o hb e=>by
   show (match V3.ah b o with|some x=>some x|none=>Im b o)=none;rw[e];apply Tv;intro aH;exact absurd e (r4 b o hb aH)) rfl rfl (λhm=>by rw[de.main]at hm;cases hm)
  have LF:Ow b=some (sq W):=by rw[LH];simp
  obtain⟨w,hSw,hIw,Nu⟩:=r5;have gL:=aoO hSw hIw (Nu b _ LF);have eF:V3.own b=none:=by
   apply Tv;intro aH;have:=r3 b aH;rw[LF]at this;cases this
  have Me:qp.fresh b:=⟨eF,λo=>by
   show (match V3.ah b o with|some x=>some x|none=>Im b o)=none;rw[(gL o).1];exact(gL o).2⟩
  have ama:E3.n=Hs.length+7:=by rw[de.ai.bz.n];simp[dx,iB]
  have tn:=Q8.add Me (sq W) (x:=.obj (sq W)) ⟨by rw[Env.dO];simp[View.upd],rfl,rfl,λo=>by rw[Env.dO];exact Me.2 o⟩ (λb' e=>by
   simp only[bT,Env.dO,Tm]at e;exact e.symm)
  have hV4:qp.upd b (sq W)={V3 with ah:=λb o=>match V3.ah b o with|some x=>some x|none=>Im b o,own:=λb=>match V3.own b with|some x=>some x|none=>Ow b,role:=.recv c Wg ((nf x deep n js).set j [])}:=by
   have:(λb'=>if b'=b then some (sq W)else V3.own b')=λb=>match V3.own b with|some x=>some x|none=>Ow b:=by
    funext b';by_cases hb:b'=b
    ·subst hb;rw[if_pos rfl,eF,LF]
    ·rw[if_neg hb];cases dG:V3.own b' with
     |some y=>rfl
     |none=>simp[LH,hb]
   show View.mk _ _ _ _=View.mk _ _ _ _;congr 1
  have hEb:(({E3 with I:=qp.ah}:Env).add b qp.ah).blk (Hs.length+7)=b:=by rw[<- ama];exact Env.dO ({E3 with I:=qp.ah}:Env) b _
  have N6:E3.Le (({E3 with I:=qp.ah}:Env).add b qp.ah):=abY.trans (Env.qX _ b λ_ _ _ e=>e);have amh:(({E3 with I:=qp.ah}:Env).add b qp.ah).n=Hs.length+8:=by show E3.n+1=_;omega
  rw[hV4]at tn;generalize hE4:(({E3 with I:=qp.ah}:Env).add b qp.ah)=E4 at tn hEb N6 amh;have bx:ap E4 (.aQ [.agg (W.l (Hs.length+7)),bv true]) (.tuple #[v,.bool true]):=by
   subst hv;refine .aQ rfl λq a e=> ?_
   match q,e with
   |0,e=>cases e;exact anL hEb (by omega)
   |1,e=>cases e;exact .val _
  have alb:Hs++(dx x deep c++(iB Hs D++[]))++[aa.obj (sq W)]=Hs++(dx x deep c++(iB Hs D++[setH W.aL])):=by simp[setH,sq]
  rw[alb]at tn;clear hV4 hE4 Q8 abY Me;generalize aaw:({V3 with ah:=λb o=>match V3.ah b o with|some x=>some x|none=>Im b o,own:=λb=>match V3.own b with|some x=>some x|none=>Ow b,role:=.recv c Wg ((nf x deep n js).set j [])}:View)=V4 at tn;have IU:V4.role=.recv c Wg (nf x deep n (js++[j])):=by rw[<- aaw];show nm.recv c Wg _=_;rw[asm]
  have de4:V4.deaf=V3.deaf:=by rw[<- aaw]
  have rU:At E4 V4 ⟨(27,.aQ [.agg (W.l (Hs.length+7)),bv true])::jv Hs,Hs++(dx x deep c++(iB Hs D++[setH W.aL]))⟩ (a3.put (some 27) (.tuple #[v,.bool true])) 35:=⟨tn,(de.ai.tok.mono N6).put (by rw[de.ai.size];omega) bx,(eg a3 (some 27) _).trans de.ai.size⟩;have iU:jA x deep Hs E c Wg rv dv fv ((27,.aQ [.agg (W.l (Hs.length+7)),bv true])::jv Hs) (iB Hs D++[setH W.aL]) E4 V4 (a3.put (some 27) (.tuple #[v,.bool true])):=
   de.I5 N6 (put_defers a3 _ _) de4 rU
  have tI:=Kn.len yD (Hs.length+7);refine PR ⟨(10,bv true)::(9,.op (Hs.length+8) 0)::jv Hs,Hs++(dx x deep c++(iB Hs D++[setH W.aL,.cells (W.l (Hs.length+7)) 88]))⟩ rfl (by kernel_rfl) rU ?_ λE5 V5 a5 gr ko=> ?_
  ·unfold jv dx iB;(try simp only[seval,tI]);exact⟨vN _ _,dW (by simp only[seval];simp[bk,Wk.refl]) rfl⟩
  have b8:=iU.step gr ko;have Fb:V5.role=.recv c Wg (nf x deep n (js++[j])):=gr.role.trans IU;refine wp_seq (wp_seq ?_);refine b8.to ((31,bv false)::(9,.op (Hs.length+8) 0)::jv Hs) (iB Hs D++[setH W.aL,.cells (W.l (Hs.length+7)) 88]) ?_ λE6 V6 a6 Mx oQ=> ?_
  ·unfold jv dx iB;refine aj ?_;exact dW (by simp only[seval];simp[bk,Wk.refl]) rfl
  refine PN oQ.ai rfl ?_;refine wp_skip ?_;refine agY (λhs:List (List Int)=>hs.Perm W.aL) (λhs=>⟨jv Hs,Hs++(dx x deep c++(iB Hs (h_ D hs W)++[setH W.aL,.cells (W.l (Hs.length+7)) 88]))⟩) oQ.ai ?_ λhs E7 V7 a7 MV oT LU=> ?_
  ·unfold jv dx iB;refine ab ?_;simp only[seval,tI];rw[SW (i:=28) (by omega)];refine aK ((ai7 (fp:=Hs.length+6) (mp:=Hs.length+5) (mg:=Hs.length+7) h.kn yD (by omega) (by omega) (by rw[aZ];rfl) (by rw[aZ];rfl) (by rw[aZ];rfl) hWn ?_));intro hs hp;rw[dH,dH];(try simp only[seval]);exact⟨hs,hp,dW (by simp only[seval];simp[bk,Wk.refl]) rfl⟩
  have DC:=oQ.step oT LU;have fI:=jA.cut (T':=jv Hs) DC AU (by
   unfold jv iB;simp only[US,SZ,false_imp_iff,implies_true,and_true,look,ZJ,if_false,if_true,Tm,exists_eq_left',Wk.refl,true_and,ach,Un,UA];omega) (anM bw)
  have jH:ox x deep (js++[j]) (h_ D hs W):=by
   rw[hW]at MV⊢;exact h.abN.snoc MV
  refine hQ j (h_ D hs W) _ V7 a7 iJ ⟨by rw[SN];exact fI,?_,jH,abM h.kn yD MV,?_,?_⟩
  ·rw[oT.role,Mx.role];exact Fb
  ·rw[Vh];exact⟨h.nodup,by simp,λa ha b hb=>by rw[S9.1 hb];exactλe=>iJ (e▸ha)⟩
  ·intro k hk;rcases SV.1 hk with h'|h'
   ·exact h.lt k h'
   ·rw[S9.1 h'];exact lS
 ·
  have eN:=asi hS;let V4:View:={V3 with role:=.plain};have tn:Conc (E3.frame E3.fr) V4 (Hs++(dx x deep c++(iB Hs D++[]))):=
   de.ai.bz.zJ (V':=V4) _ rfl (λ_ _ _ _ _ _ h=>h) (λg hg=>by cases hg) (λg hg=>by cases hg) (λhm=>by rw[de.main]at hm;cases hm) de.ai.bz.fr
  have bx:ap E3 (.aQ [.agg jx,bv false]) (.tuple #[.agg PZ.toArray,.bool false]):=by
   refine .aQ rfl λq a e=> ?_
   match q,e with
   |0,e=>cases e;exact aib PZ
   |1,e=>cases e;exact .val _
  have rU:At E3 V4 ⟨(27,.aQ [.agg jx,bv false])::jv Hs,Hs++(dx x deep c++(iB Hs D++[]))⟩ (a3.put (some 27) (.tuple #[.agg PZ.toArray,.bool false])) 35:=⟨tn,de.ai.tok.put (by rw[de.ai.size];omega) bx,(eg a3 (some 27) _).trans de.ai.size⟩;have iU:=de.I5 (V2:=V4) (Env.Le.refl E3) (put_defers a3 (some 27) _) rfl rU;have oZ:jx.length=28:=rfl;have fe:=Kn.len h.kn (Hs.length+5);refine PR ⟨(10,bv false)::jv Hs,Hs++(dx x deep c++(iB Hs D++[.cells jx 88]))⟩ rfl (by kernel_rfl) rU ?_ λE5 V5 a5 gr ko=> ?_
  ·unfold jv dx iB;(try simp only[seval,oZ]);exact⟨λa ha=>by simp only[jx,SK,SV,XG]at ha;rcases ha with rfl|rfl|⟨_,rfl⟩|⟨_,rfl⟩<;>rfl,dW (by simp only[seval];simp[bk,Wk.refl]) rfl⟩
  have b8:=iU.step gr ko;refine wp_seq (wp_seq ?_);refine b8.to ((31,bv true)::jv Hs) (iB Hs D++[.cells jx 88]) ?_ λE6 V6 a6 Mx oQ=> ?_
  ·unfold jv dx iB;refine aj ?_;exact dW (by simp only[seval];simp[bk,Wk.refl]) rfl
  refine PN oQ.ai rfl ?_;refine wp_seq ?_;refine Ap ⟨[(4,.op (Hs.length+2) 0)],Hs++([.part 6 x.l 76,.part 1 [iv deep] 3,.cells (D.l (Hs.length+5)) 88,.part 1 [.val (.chan (some c))] 139,.gone,setH D.aL]++[.cells (D.l (Hs.length+5)) 88,.cells jx 88])⟩ oQ.ai ?_ λE7 V7 a7 oT LU=> ?_
  ·unfold jv dx iB;refine ab ?_;simp only[seval,fe,oZ];rw[SW (i:=28) (l:=D.l (Hs.length+5)) (by omega)];exact⟨fe,by omega,vN _ _,dW (by simp only[seval];simp[bk,Wk.refl]) (by rw[fe,T7 (by rw[oZ];exact SO _),SN])⟩
  refine wp_ret ?_;exact GO E7 V7 a7 _ LU (oQ.lo.trans oT.le.lo) (oT.defers.trans oQ.defers) (oT.deaf.trans oQ.deaf) (oT.role.trans (Mx.role.trans gr.role)) (λb y e=>by rw[oT.le.fr];exact(oQ.fr b y e).1) eN
end
open Go.Conc Go.Proofs Go.Gg.Tk
theorem ari{P:SI}{rs:List UU}{fn:YL}{nt:Nat}{k kp:AV->List aa->Prop}{E E':Env}{V V':View}{H L G:List aa}{T:List (Nat×AV)}{a':Act}{av:AV}(hr:fn.results=rs.toArray)(ai:At E' V' ⟨T,H.map strip++(L++G)⟩ a' nt)(pM:E.Lo E')(hc:Conc E V H)(cq:V'.role=V.role)(fg:V'.deaf=V.deaf)(hf:∀b y,E.fr b=some y->E'.fr b=some y)
  (gw:ig P ⟨T,H.map strip++(L++G)⟩ rs=some [av]) (hL:L.map strip=L) (aq:bJ (H.map strip++L)) (hlt:Lt (H.length+L.length) av) (hk:k av (H++L)):∃v,aS P V' (results fn a'.tmps) (λx aU=>x=v/\aU=V') (λ_ _=>False)/\gU E V k kp (.ret v) V':=by
 obtain⟨vs,hl,l6,y9⟩:=IS ai rs [av] gw;obtain⟨v,rfl⟩:∃v,vs=[v]:=List.length_eq_one_iff.1 hl;have bx:ap E' av v:=l6 0 av rfl;have qS:aS P V' (results fn a'.tmps) (λx aU=>x=v/\aU=V') (λ_ _=>False):=by
  unfold results;rw[hr,Yc];refine aA ?_;refine aA (y9 ?_);refine au (au ⟨?_,rfl⟩);simp
 have L3:=ai.bz;dsimp only at L3;rw[<- SC]at L3;have fI:=L3.trim (H:=H.map strip++L) (G:=G) aq;have hlen:(H.map strip++L).length=H.length+L.length:=by simp
 rw[hlen]at fI;have vu:(H++L).map strip=H.map strip++L:=by rw[To,hL]
 rw[<- vu]at fI;refine⟨v,qS,av,((({E' with n:=H.length+L.length}:Env).fu E.main).frame E.fr),H++L,?_,cq,fg,?_,fI.aq8 E.main E.fr (λk e=> ?_) (λe=>by rw[cq,fg];exact hc.top e) hf,hk⟩
 ·refine Env.Lo.le (E':={E' with n:=H.length+L.length}) ⟨pM.I,?_,pM.blk,pM.fF,pM.room⟩;show E.n<=H.length+L.length;rw[hc.n];omega
 ·exact((bx.trim hlt).fu E.main).frame E.fr
 ·by_cases DX:k<H.length
  ·rw[S0 DX]at e;exact hc.obj k _ e
  ·rw[S_ (by omega)]at e;have h2:(L.map strip)[k-H.length]?=some .gone:=(by rw[Tp,e];rfl);rw[hL,e]at h2;cases h2
section
variable {x:ak}{deep:Int}{Hs:List aa}{E:Env}{c Wg p:Nat}{rv dv fv:SP}{T:List (Nat×AV)}{E1:Env}{V1:View}{a1:Act}
theorem anP(hx:x.Ok)(hA:x7 x)(hp:x.am=p)(AU:E.n<=Hs.length)(bw:bJ Hs)(h:wl x deep Hs E c Wg rv dv fv 0 [(6,.val (pW Wg 0)),(5,.op (Hs.length+3) 0),(4,.op (Hs.length+2) 0),(3,.op (Hs.length+1) 0),(2,.op Hs.length 0)] [] E1 V1 a1){Q:Ex->Act->View->Prop}
  (hQ:∀js D E2 V2 a2 G,js.Perm (SR (p+1))->ox x deep js D->bR D->At E2 V2 ⟨[(4,.op (Hs.length+2) 0)],Hs++([.part 6 x.l 76,.part 1 [iv deep] 3,.cells (D.l (Hs.length+5)) 88,.part 1 [.val (.chan (some c))] 139,.gone,setH D.aL]++G)⟩ a2 35->E.Lo E2->a2.defers=[]->V2.deaf=0->V2.role=.plain->(∀b y,E.fr b=some y->E2.fr b=some y)->Q .ret a2 V2):WP true SA none mC Q a1 V1:=by
 have hp3:p<=3:=by have:=hx.am;omega
 have amt:bJ (Hs++(dx x deep c++[])):=abV bw (by simp);refine wp_seq (x:=cf mC) (wp_seq (x:=cf (cf mC)) ?_);refine h.ok.to (jF Hs Wg ((p+1:Nat):Int) 0) [] ?_ λE2 V2 a2 cI b_=> ?_
 ·show aR true SA none 35 (cf (cf mC)) _ _;unfold jF dx;have bU:x.l=[iv x.first,iv x.hours,iv x.am,c_ x.seen,aN x.pieces,aN x.aC]:=rfl;have hw:SD.wrap (x.am+1)=((p+1:Nat):Int):=by rw[hp,bc _ (by omega)];rfl
  refine ab ?_;simp only[seval,bU,hw];exact dW (by simp only[seval];simp[bk,Wk.refl]) rfl
 have h2:wl x deep Hs E c Wg rv dv fv 0 (jF Hs Wg ((p+1:Nat):Int) 0) [] E2 V2 a2:=h.step cI b_;refine wp_block (id:=0) (c:=.loop (ci (ci (cs (cf mC))))) ?_;refine wp_loop (λm a' V'=>∃E' i,m=p+1-i/\i<=p+1/\wl x deep Hs E c Wg rv dv fv i (jF Hs Wg ((p+1:Nat):Int) i) [] E' V' a') (p+1) ⟨E2,0,rfl,by omega,h2⟩ λm a3 V3 hI=> ?_;obtain⟨E3,i,rfl,hi,h3⟩:=hI;refine wp_seq (x:=cf (ci (ci (cs (cf mC))))) (y:=cs (ci (ci (cs (cf mC))))) ?_;refine h3.ok.to ((17,bv (decide ((i:Int)<((p+1:Nat):Int))))::jF Hs Wg ((p+1:Nat):Int) i) [] ?_ λE4 V4 a4 rY iU=> ?_
 ·show aR true SA none 35 (cf (ci (ci (cs (cf mC))))) _ _;unfold jF dx;refine aj ?_;exact dW (by simp only[seval];simp[bk,Wk.refl]) rfl
 have rP:=h3.step rY iU;refine wp_seq (x:=.cond (.tmp 17) .skip (.exit 0)) (y:=cs (cs (ci (ci (cs (cf mC)))))) (PN iU.ai rfl ?_);by_cases hik:i<p+1
 ·rw[show decide ((i:Int)<((p+1:Nat):Int))=true from decide_eq_true (by omega)];refine wp_skip ?_;have alo:jA x deep Hs E c Wg rv dv fv (jF Hs Wg ((p+1:Nat):Int) i) [] E4 V4 a4:=iU.I5 (Env.Le.refl E4) rfl rfl (iU.ai.sub (dW (by unfold jF dx;simp only[seval];simp[bk,Wk.refl]) rfl));exact anN hx hA AU amt ⟨alo,rP.role,rP.GA,rP.Dc⟩ (by omega) rfl λE5 V5 a5 h5=>⟨p+1-(i+1),by omega,E5,i+1,rfl,by omega,h5⟩
 have dB:i=p+1:=by omega
 subst dB;rw[show decide ((((p+1:Nat):Int))<((p+1:Nat):Int))=false by simp];refine wp_exit ?_;refine wp_seq (x:=cf (cs mC)) (y:=cs (cs mC)) ?_;refine Jk (K:=λs'=>look s'.T 22=some (.fn (.func 100) [] [.val (pW Wg 0),.op (Hs.length+3) 0])/\s'.Sub ⟨[(5,.op (Hs.length+3) 0),(4,.op (Hs.length+2) 0)],Hs++(dx x deep c++[])⟩) 1 1 rfl (by kernel_rfl) iU.ai ?_ λE5 V5 a5 s5 gr ko hK=> ?_
 ·unfold jF dx;(try simp only[seval,Uf,UH,Um,T1]);exact dW (by simp only[seval];simp[bk,Wk.refl]) rfl
 obtain⟨N1,lY⟩:=hK;have b8:=iU.step gr (ko.sub lY);have Fb:V5.role=.fork c Wg (pj x deep (p+1)):=gr.role.trans rP.role;have wI:E5.fr c=some th:=by rw[gr.le.fr];exact rP.GA
 have Dd:E5.fr Wg=some (wgBlock SA (((p+1:Nat):Int)* 4294967296) 0):=by rw[gr.le.fr];exact rP.Dc
 obtain⟨c1,c2,c3⟩:=b8.ai.bz.fr c _ wI;obtain⟨v1,v2,v3⟩:=b8.ai.bz.fr Wg _ Dd;have e22:a5.eval (.tmp 22)=.func (.func 100) #[] #[pW Wg 0,fv]:=by
  obtain⟨fa,ca,q1,q2,q3⟩:=Rm (ko.tok 22 _ N1).2;rw[Gl q2]at q1;refine q1.trans ?_;have fZ:ca.size=2:=q3.1;have k0:=uR (q3.2 0 _ rfl);have k1:=C4 (q3.2 1 _ rfl);rw[<- b8.ef]at k1;congr 1;refine Array.ext fZ λj h1 h2=> ?_;have hj:j=0\/j=1:=by omega
  rw[SH,SJ (by omega)]at k0 k1;rcases hj with rfl|rfl
  ·exact k0
  ·exact k1
 have hfc:V5.ah (E5.blk (Hs.length+3)) 0=some (.chan (some c)):=by
  have bC:=b8.df;rw[b8.ef]at bC;generalize hp:(Value.pointer (some ⟨E5.blk (Hs.length+3),0,none⟩))=pv at bC;cases bC with
  |rp b o f h1 h2=>
   cases hp;have:=h1 0 (by simp);rw[b8.ai.bz.I]at this;rw[UJ]at this;rw[this,uR (h2 0 _ rfl)]
 refine PQ rfl rfl ?_;refine⟨rfl,.tmp 22,100,#[],_,rfl,e22,b8.deaf,.inr ⟨c,Wg,_,Fb,b8.ne,c1,?_,c2,v2,?_,?_⟩⟩
 ·rw[v1,Pp]
 ·have:=ahT Wg (E5.blk (Hs.length+3)) c (Im:=V5.ah) hfc;rw[b8.ef];simpa[pW]using this
 let V6:View:={V5 with own:=λb=>if b=c\/b=Wg then none else V5.own b,role:=.recv c Wg (pj x deep (p+1))};let f6:Nat->Option Obj:=λb=>if b=c\/b=Wg then none else E5.fr b;have Ki:Conc (E5.frame f6) V6 (Hs++(dx x deep c++[])):=by
  refine b8.ai.bz.zJ (V':=V6) _ rfl (λb z k w hk kH hz=> ?_) (λg hg=>by cases hg) (λg hg=>by cases hg) (λhm=>by rw[b8.main]at hm;cases hm) (λb y hb=> ?_)
  ·have n1:b≠c:=b8.ai.bz.ES wI hk kH;have n2:b≠Wg:=b8.ai.bz.ES Dd hk kH;show (if b=c\/b=Wg then none else V5.own b)=some z;rw[if_neg (λe=>e.elim n1 n2)];exact hz
  ·by_cases A2:b=c\/b=Wg
   ·simp only[f6,if_pos A2]at hb;cases hb
   ·simp only[f6,if_neg A2]at hb;obtain⟨q1,q2,q3⟩:=b8.ai.bz.fr b y hb;refine⟨?_,q2,q3⟩;show (if b=c\/b=Wg then none else V5.own b)=some y;rw[if_neg A2];exact q1
 have oQ:jA x deep Hs E c Wg rv dv fv [(5,.op (Hs.length+3) 0),(4,.op (Hs.length+2) 0)] [] (E5.frame f6) V6 (a5.put none undef):=by
  refine⟨⟨Ki,b8.ai.tok.frame _,b8.ai.size⟩,b8.lo.trans (Env.Ie E5 f6),b8.main,b8.defers,b8.deaf,b8.er,b8.ed,b8.ef,b8.dr.frame f6,b8.dd.frame f6,b8.df.frame f6,λb y e=> ?_,b8.ne⟩;obtain⟨q1,q2,q3⟩:=b8.fr b y e;refine⟨?_,q2,q3⟩;show (if b=c\/b=Wg then none else E5.fr b)=some y;rw[if_neg (λe=>e.elim q2 q3)];exact q1
 show WP true SA none (.seq (cf (cs (cs mC))) (cs (cs (cs mC)))) Q (a5.put none undef) V6;refine wp_seq ?_;refine oQ.to (jv Hs) (iB Hs Kn.zero) ?_ λE7 V7 a7 oT DC=> ?_
 ·show aR true SA none 35 (cf (cs (cs mC))) _ _;unfold jv dx iB;refine aj ?_;exact dW (by simp only[seval];simp[bk,Wk.refl]) rfl
 refine wp_block (id:=2) (c:=.loop abU) ?_;have cw:FV x deep (p+1) Hs E c Wg rv dv fv [] Kn.zero (jv Hs) [] E7 V7 a7:=⟨by rw[SN];exact DC,by rw[oT.role,asl],.nil,EC,WR,λj hj=>by cases hj⟩;refine wp_loop (λm a' V'=>∃E' js D,m=p+1-js.length/\FV x deep (p+1) Hs E c Wg rv dv fv js D (jv Hs) [] E' V' a') _ ⟨E7,[],Kn.zero,rfl,cw⟩ λm a8 V8 hI=> ?_;obtain⟨E8,js,D,rfl,h8⟩:=hI;have hlen:∀js:List Nat,js.Nodup->(∀j∈js,j<p+1)->js.length<=p+1:=λjs hn hl=>by
  have:=hn.length_le_of_subset (l₂:=SR (p+1)) λj hj=>by simpa using hl j hj
  simpa using this
 refine anO hx hA (by omega) AU bw h8 (λj D' E9 V9 a9 hj h9=> ?_) λE9 V9 a9 G ale Ob Kw Kj O9 yu eN=> ?_
 ·have h1:=hlen _ h9.nodup h9.lt;simp only[SQ,TH]at h1;exact⟨p+1-(js++[j]).length,by simp;omega,E9,js++[j],D',rfl,h9⟩
 ·have MX:js.Perm (SR (p+1)):=by
   refine(List.perm_ext_iff_of_nodup h8.nodup Ya).2 λk=> ?_;rw[TG];exact⟨h8.lt k,eN k⟩
  exact hQ js D E9 V9 a9 G MX h8.abN h8.kn ale Ob Kw Kj O9 yu
end
theorem ajZ{x:ak}{deep:Int}{p:Nat}{H:List aa}{k kp:AV->List aa->Prop}(hx:x.Ok)(hA:x7 x)(hp:x.am=p)(hm:H[0]?=some .main)(hk:∀js D L,js.Perm (SR (p+1))->ox x deep js D->bR D->L.length=5->k (.agg (D.l (H.length+5))) (H++(L++[setH D.aL]))):ba true SA 77 H [x.av,iv deep] k kp:=by
 intro E V vs hc hd;have hEm:E.main=true:=hc.obj 0 _ hm;obtain⟨jo,vb⟩:=hc.top hEm;have hn:E.n=H.length:=hc.n;refine QR (by simp) F.f77 rfl ?_;have tL:At (E.fu false) V ⟨[(0,x.av),(1,iv deep)],H.map strip⟩ {tmps:=vs++TS (XX.ntmps-vs.size) undef,defers:=[]} 35:=by
  have:=CR (nt:=35) hc hd (by simp);exact⟨hc.ah7,this.tok.fu false,this.size⟩
 have hlen:(H.map strip).length=H.length:=Ta _;have MR:bJ (H.map strip):=tL.bz.aq
 suffices pN:∀Hs,H.map strip=Hs->WP true SA none vO (Ends SA XX (gU E V k kp)) {tmps:=vs++TS (XX.ntmps-vs.size) undef,defers:=[]} V from pN _ rfl
 intro Hs bw;rw[bw]at tL hlen MR;have aaz:({tmps:=vs++TS (XX.ntmps-vs.size) undef,defers:=[]}:Act).defers=[]:=rfl;generalize({tmps:=vs++TS (XX.ntmps-vs.size) undef,defers:=[]}:Act)=a0 at tL aaz;have bU:x.l=[iv x.first,iv x.hours,iv x.am,c_ x.seen,aN x.pieces,aN x.aC]:=rfl;refine wp_seq (x:=cf vO) (y:=cs vO) ?_;refine Ap ⟨[(4,.op (Hs.length+2) 0),(3,.op (Hs.length+1) 0),(2,.op Hs.length 0)],Hs++[.cells x.l 76,.cells [iv deep] 3,.cells jx 88]⟩ tL ?_ λE2 V2 a2 cI u_=> ?_
 ·show aR true SA none 35 (cf vO) _ _;simp only[ak.av];refine aj ?_;exact dW (by simp only[seval];simp[bk,Wk.refl]) rfl
 obtain⟨ti,xg⟩:∃i,SA.info? 88=some i:=Option.isSome_iff_exists.1 (by kernel_rfl);refine wp_seq (x:=cf (cs vO)) (y:=cs (cs vO)) (ae1 rfl rfl (apE rfl (d:=.both) (el:=88) (by kernel_rfl) xg λc wU=> ?_));let f3:Nat->Option Obj:=λb=>if b=c then some th else E2.fr b;have qE:At (E2.frame f3) (V2.upd c th) ⟨[(11,.val (.chan (some c))),(4,.op (Hs.length+2) 0),(3,.op (Hs.length+1) 0),(2,.op Hs.length 0)],Hs++[.cells x.l 76,.cells [iv deep] 3,.cells jx 88]⟩ (a2.put (some 11) (.chan (some c))) 35:=
  ⟨u_.bz.akI wU th,(u_.tok.frame _).put (by rw[u_.size];omega) (.val _),(eg a2 (some 11) _).trans u_.size⟩
 refine PR ⟨[(5,.op (Hs.length+3) 0),(4,.op (Hs.length+2) 0),(3,.op (Hs.length+1) 0),(2,.op Hs.length 0)],Hs++[.cells x.l 76,.cells [iv deep] 3,.cells jx 88,.cells [.val (.chan (some c))] 139]⟩ rfl (by kernel_rfl) qE ?_ λE4 V4 a4 rY rU=> ?_
 ·(try simp only[seval,apW,aus,anX]);exact dW (by simp only[seval];simp[bk,Wk.refl]) rfl
 refine wp_seq (x:=cf (cs (cs vO))) (y:=mC) ?_;refine Ap ⟨[(6,.op (Hs.length+4) 0),(5,.op (Hs.length+3) 0),(4,.op (Hs.length+2) 0),(3,.op (Hs.length+1) 0),(2,.op Hs.length 0)],Hs++[.cells x.l 76,.cells [iv deep] 3,.cells jx 88,.cells [.val (.chan (some c))] 139,.cells [.val (.int .u64 0),.val (.int .u32 0)] 147]⟩ rU ?_ λE5 V5 a5 gr ko=> ?_
 ·show aR true SA none 35 (cf (cs (cs vO))) _ _;refine aj ?_;exact dW (by simp only[seval];simp[bk,Wk.refl]) rfl
 obtain⟨wcs,Nr,hwo,zk,DI⟩:=ko.bz.akJ (id:=Hs.length+4) (aZ _ _ 4);have anh:=Rq (l:=[.int .u64 0,.int .u32 0]) Nr;subst anh;rw[dH]at DI;simp only[UK,T9]at DI;have RH:=ko.at1 (t:=6) (id:=Hs.length+4) (off:=0) rfl;have fr5:E5.fr=f3:=gr.le.fr.trans rY.le.fr;have wI:E5.fr c=some th:=by rw[fr5];simp[f3]
 have aH:c≠E5.blk (Hs.length+4):=λe=>ko.bz.ES wI (aZ Hs _ 4) rfl e.symm;have frE:∀b y,E.fr b=some y->E5.fr b=some y/\b≠c/\b≠E5.blk (Hs.length+4):=λb y hb=>by
  have h2:E2.fr b=some y:=by rw[cI.le.fr];exact hb
  have A2:b≠c:=λe=>by subst e;have:=(u_.bz.fr b y h2).1;rw[wU.1]at this;cases this
  have h5:E5.fr b=some y:=by rw[fr5];simp[f3,A2,h2]
  exact⟨h5,A2,λe=>ko.bz.ES h5 (aZ Hs _ 4) rfl e.symm⟩
 generalize AX:E5.blk (Hs.length+4)=Wg at hwo zk DI RH aH frE;let f6:Nat->Option Obj:=λb'=>if b'=Wg then some (wgBlock SA 0 0)else E5.fr b';have aaI:Conc (E5.frame f6) V5 (Hs++[.cells x.l 76,.cells [iv deep] 3,.cells jx 88,.cells [.val (.chan (some c))] 139,.gone]):=by
  have:(λb'=>if b'=Wg then some (Obj.cells #[.int .u64 0,.int .u32 0] 147 (0,0))else E5.fr b')=f6:=by
   funext b';simp only[f6,wgBlock,wgT]
  rw[<- this];exact DI
 have Du:At (E5.frame f6) V5 ⟨[(6,.val (pW Wg 0)),(5,.op (Hs.length+3) 0),(4,.op (Hs.length+2) 0),(3,.op (Hs.length+1) 0),(2,.op Hs.length 0)],Hs++[.cells x.l 76,.cells [iv deep] 3,.cells jx 88,.cells [.val (.chan (some c))] 139,.gone]⟩ a5 35:=by
  refine⟨aaI,λt av e=> ?_,ko.size⟩;by_cases ht:t=6
  ·subst ht;cases e;refine⟨by rw[ko.size];omega,?_⟩;have:a5.tmps.getD 6 undef=pW Wg 0:=RH;rw[this];exact .val _
  ·refine(ko.tok.frame f6) t av ?_;simp only[look]at e⊢;rw[if_neg (Ne.symm ht)]at e⊢;exact e
 clear DI aaI;have lo6:E.Lo (E5.frame f6):=((((E.aou false).trans cI.le.lo).trans (Env.Ie E2 f3)).trans (rY.le.lo.trans gr.le.lo)).trans (Env.Ie E5 f6);have Oj:(E5.frame f6).main=false:=gr.le.main.trans (rY.le.main.trans cI.le.main);have ah4:a5.defers=[]:=gr.defers.trans (rY.defers.trans ((put_defers a2 _ _).trans (cI.defers.trans aaz)));have ro6:V5.role=.plain:=gr.role.trans (rY.role.trans (cI.role.trans jo));have de6:V5.deaf=0:=gr.deaf.trans (rY.deaf.trans (cI.deaf.trans vb));have Lj:(E5.frame f6).fr c=some th:=by show f6 c=_;simp only[f6,if_neg aH];exact wI
 have Ll:(E5.frame f6).fr Wg=some (wgBlock SA 0 0):=by show f6 Wg=_;simp[f6]
 have aah:∀b y,E.fr b=some y->(E5.frame f6).fr b=some y/\b≠c/\b≠Wg:=λb y hb=>by
  obtain⟨q1,q2,q3⟩:=frE b y hb;refine⟨?_,q2,q3⟩;show f6 b=_;simp only[f6,if_neg q3];exact q1
 generalize E5.frame f6=E6 at Du lo6 Oj Lj Ll aah;obtain⟨V7,g7,o7,r7,d7,xo,Gh,Rj⟩:=Du.bz.IP (id:=Hs.length) (aZ _ _ 0) 6 (by simp[bU]);rw[show Hs.length=Hs.length+0 from rfl,dH]at Gh;simp only[T9]at Gh;have aey:=Du.tok.mono xo;generalize hE7:({E6 with I:=V7.ah}:Env)=E7 at xo Gh Rj aey;obtain⟨V8,g8,o8,r8,d8,vP,Gi,Rk⟩:=Gh.IP (id:=Hs.length+1) (aZ _ _ 1) 1 (by simp);rw[dH]at Gi;simp only[UK,T9]at Gi;have aez:=aey.mono vP;generalize hE8:({E7 with I:=V8.ah}:Env)=E8 at vP Gi Rk aez;obtain⟨V9,g9,o9,r9,d9,vQ,yj,Km⟩:=Gi.IP (id:=Hs.length+3) (aZ _ _ 3) 1 (by simp);rw[dH]at yj;simp only[UK,T9]at yj;have aeA:=aez.mono vQ;generalize hE9:({E8 with I:=V9.ah}:Env)=E9 at vQ yj Km aeA;refine WP.ghost g7 (WP.ghost g8 (WP.ghost g9 ?_));have Ob:E.Lo E9:=lo6.trans ((xo.trans vP).trans vQ).lo;have O9:V9.role=.plain:=r9.trans (r8.trans (r7.trans ro6));have Kj:V9.deaf=0:=d9.trans (d8.trans (d7.trans de6));have yu:E9.fr=E6.fr:=vQ.fr.trans (vP.fr.trans xo.fr);have n6:E6.n=Hs.length+5:=by rw[Du.bz.n];simp
 have b7:∀k,k<Hs.length+5->E9.blk k=E6.blk k/\E9.blk k=E7.blk k/\E9.blk k=E8.blk k:=λk hk=>by
  have n7:=xo.n;have n8:=vP.n;have q7:=xo.blk k (by omega);have q8:=vP.blk k (by omega);have q9:=vQ.blk k (by omega);exact⟨by rw[q9,q8,q7],by rw[q9,q8],q9⟩
 obtain⟨c1,c2,c3⟩:=yj.fr c th (by rw[yu];exact Lj);obtain⟨v1,v2,v3⟩:=yj.fr Wg _ (by rw[yu];exact Ll);refine auf (c:=c) (Wg:=Wg) rfl O9 aH c1 (by rw[v1];simp) v2 ?_;let JK:View:={V9 with role:=.fork c Wg []};have ahU:Conc (E9.frame E9.fr) JK (Hs++(dx x deep c++[])):=by
  refine yj.zJ (V':=JK) _ rfl (λ_ _ _ _ _ _ h=>h) (λg hg=> ?_) (λg hg=> ?_) (λhm=>by rw[vQ.main,vP.main,xo.main,Oj]at hm;cases hm) yj.fr
  ·cases hg;exact⟨by show V9.own Wg≠none;rw[v1];simp,v2,v3⟩
  ·cases hg;exact⟨by show V9.own c≠none;rw[c1];simp,c2,c3⟩
 have dr9:ap E9 (.rp x.l) (.pointer (some ⟨E9.blk Hs.length,0,none⟩)):=by
  have h7:=(Rj.mono vP).mono vQ;rw[<- (b7 Hs.length (by omega)).1]at h7;rwa [SW (by simp[bU])]at h7
 have dd9:ap E9 (.rp [iv deep]) (.pointer (some ⟨E9.blk (Hs.length+1),0,none⟩)):=by
  have h8:=Rk.mono vQ;rw[<- (b7 (Hs.length+1) (by omega)).2.1]at h8;exact h8
 have Kw:ap E9 (.rp [.val (.chan (some c))]) (.pointer (some ⟨E9.blk (Hs.length+3),0,none⟩)):=by
  rw[<- (b7 (Hs.length+3) (by omega)).2.2]at Km;exact Km
 have MM:jA x deep Hs E c Wg (.pointer (some ⟨E9.blk Hs.length,0,none⟩)) (.pointer (some ⟨E9.blk (Hs.length+1),0,none⟩)) (.pointer (some ⟨E9.blk (Hs.length+3),0,none⟩)) [(6,.val (pW Wg 0)),(5,.op (Hs.length+3) 0),(4,.op (Hs.length+2) 0),(3,.op (Hs.length+1) 0),(2,.op Hs.length 0)] [] E9 JK a5:=
  ⟨⟨ahU,aeA,Du.size⟩,Ob,vQ.main.trans (vP.main.trans (xo.main.trans Oj)),ah4,Kj,rfl,rfl,rfl,dr9,dd9,Kw,λb y hb=>by rw[yu];exact aah b y hb,aH⟩
 refine anP hx hA hp (by omega) MR ⟨MM,rfl,by rw[yu];exact Lj,by rw[yu];exact Ll⟩ λjs D E11 V11 a11 G MX jH eo aaB aot ah3 ah0 ark akH=> ?_;subst bw;have fe:=Kn.len eo (H.length+5);let L5:List aa:=[.part 6 x.l 76,.part 1 [iv deep] 3,.cells (D.l (H.length+5)) 88,.part 1 [.val (.chan (some c))] 139,.gone];rw[hlen]at aaB;refine⟨ah3,ari (P:=SA) (rs:=[.cell 4 88]) (H:=H) (L:=L5++[setH D.aL]) (G:=G) (T:=[(4,.op (H.length+2) 0)]) (av:=.agg (D.l (H.length+5))) rfl aaB aot hc (ark.trans jo.symm) (ah0.trans vb.symm) akH ?_ rfl ?_ ?_ (hk js D L5 MX jH eo rfl)⟩
 ·have hg:(H.map strip++(L5++[setH D.aL]++G))[H.length+2]?=some (.cells (D.l (H.length+5)) 88):=by
   have:=aZ (H.map strip) (L5++[setH D.aL]++G) 2;rw[hlen]at this;exact this
  have aE:Uh 28 (D.l (H.length+5))=D.l (H.length+5):=SW (by omega);generalize hLG:H.map strip++(L5++[setH D.aL]++G)=LG at hg;try simp only[seval,ig,vX,hg,fe,aE,aa.cellsOf]
 ·have hl:H.length=(H.map strip).length:=hlen.symm;intro y hy;have al9:(H.map strip++(L5++[setH D.aL])).length=H.length+6:=by simp[L5]
  rw[al9];rcases SV.1 hy with h|h
  ·exact(MR y h).mono (by omega)
  ·simp only[L5,SK,SV,SZ,or_false]at h;rcases h with(rfl|rfl|rfl|rfl|rfl)|rfl
   ·exactλa ha=>Ih x _ a ha
   ·intro a ha;simp at ha;subst ha;exact .val _
   ·exact zo (by omega)
   ·intro a ha;simp at ha;subst ha;exact .val _
   ·trivial
   ·trivial
 ·refine .agg λa ha=> ?_;exact zo (by simp[L5]) a ha
namespace Tk
theorem aaZ{x:ak}{bt:Nat}(h0:0<=x.first)(h90:x.first<=90)(hp:0<=x.am/\x.am<=3):∀(d:Nat)(pre:List Int),pre.length+d<=4->pre.head?=some x.first->(∀a∈pre,x.first<=a/\a<=x.first+3* (pre.length-1:Nat))->∀h∈mY x bt d pre,h.length=4/\h.head?=some x.first/\∀a∈h,x.first<=a/\a<=x.first+9
 |0,pre,hl,hh,ha,h,hm=>by
  unfold mY at hm;split at hm
  ·rw[S9]at hm;subst hm;have aH:pre≠[]:=λe=>(by rw[e]at hh;cases hh);have cP:0<pre.length:=VB.2 aH;have vr:pre.getLastD 0∈pre:=by
    rw[U_,X0 aH];exact ZB aH
   refine⟨by simp[cz];omega,by rw[cz,WU,hh];rfl,λa hm=> ?_⟩;have D1:a∈pre:=by
    rcases SV.1 hm with h|h
    ·exact h
    ·rw[(XG.1 h).2];exact vr
   have:=ha a D1;omega
  ·cases hm
 |d+1,pre,hl,hh,ha,h,hm=>by
  unfold mY at hm;split at hm
  ·obtain⟨n,hn,hm⟩:=S4.1 hm;have iZ:n<x.am.toNat+1:=(by simpa using hn);split at hm
   ·cases hm
   ·have aH:pre≠[]:=λe=>(by rw[e]at hh;cases hh);have cP:0<pre.length:=VB.2 aH;have vr:pre.getLastD 0∈pre:=by
     rw[U_,X0 aH];exact ZB aH
    refine aaZ h0 h90 hp d _ (by simp;omega) (by rw[WU,hh];rfl) (λa D1=> ?_) h hm;rw[SQ,TH];rcases SV.1 D1 with h'|h'
    ·have:=ha a h';omega
    ·rw[S9]at h';subst h';have:=ha _ vr;omega
  ·cases hm
theorem aaV{x:ak}{bt:Nat}(hx:x.Ok){h:List Int}(hm:h∈jW x bt):mM h:=by
 have hf:=hx.first;have hh:=hx.hours;have hp:=hx.am;obtain⟨h1,h2,h3⟩:=aaZ (bt:=bt) hf.1 hf.2 ⟨by omega,hp.2⟩ x.hours.toNat [x.first] (by simp;omega) rfl (λa ha=>by rw[S9]at ha;subst ha;simp) h hm;refine⟨h1,λa ha=>by have:=h3 a ha;omega,λa ha=>by have:=h3 a ha;omega,?_⟩
 match h,h1,h2,h3 with
 |[a,b,c,d],_,h2,h3=>
  have ha:a=x.first:=by simpa using h2
  have:=h3 d (by simp);simp;omega
theorem acO:∀{qs:List Nat}{u:Nat}{t ns:List Nat},ns∈kR qs u t->∃l,ns=t++l/\l.length=qs.length/\∀(i n q:Nat),l[i]?=some n->qs[i]?=some q->n<9/\q.testBit n=true
 |[],u,t,ns,h=>by
  simp only[kR,S9]at h;exact⟨[],by simp[h],rfl,λi n q h1=>by cases h1⟩
 |q::qs,u,t,ns,h=>by
  simp only[kR,S4]at h;obtain⟨n,hn,h⟩:=h;split at h
  ·cases h
  ·rename_i hc;obtain⟨l,h1,h2,h3⟩:=acO h;refine⟨n::l,by rw[h1];simp,by simp[h2],λi m q' h4 h5=> ?_⟩
   match i with
   |0=>
    cases h4;cases h5;refine⟨by simpa using hn,?_⟩;simp at hc;exact hc.2
   |i+1=>exact h3 i m q' h4 h5
theorem acY{k:Nat}{ns:List Nat}:∀{qs:List Nat}{u:Nat}{t os:List Nat},os∈mG k ns qs u t->∃l,os=t++l/\l.length=qs.length/\∀n∈l,n<k
 |[],u,t,os,h=>by
  simp only[mG,S9]at h;exact⟨[],by simp[h],rfl,λn h1=>by cases h1⟩
 |q::qs,u,t,os,h=>by
  simp only[mG,S4]at h;obtain⟨n,hn,h⟩:=h;split at h
  ·cases h
  ·obtain⟨l,h1,h2,h3⟩:=acY h;refine⟨n::l,by rw[h1];simp,by simp[h2],λm hm=> ?_⟩;rcases SK.1 hm with rfl|hm
   ·simpa using hn
   ·exact h3 m hm
theorem Pz:∀{h:List Int}{i:Nat}{n a:Int},h.head?=some a->a<=n->n<h.getLastD 0->0<=fE i h n
 |[],i,n,a,h1,_,_=>by cases h1
 |[b],i,n,a,h1,h2,h3=>by
  simp at h1 h3;omega
 |b::c::l,i,n,a,h1,h2,h3=>by
  have:b=a:=by simpa using h1
  subst this;unfold fE;split
  ·omega
  ·rename_i hc;exact Pz (a:=c) rfl (by omega) (by simpa[U_]using h3)
theorem atF{x:ak}{h:List Int}{ns os:List Nat}(hx:x.Ok)(hh:mM h)(hn:ns∈f_ x h)(ho:os∈iD x h ns):jB x (dC h ns os):=by
 obtain⟨l,e1,e2,e3⟩:=acO hn;simp only[UN]at e1;subst e1;obtain⟨m,g1,g2,g3⟩:=acY ho;simp only[UN]at g1;subst g1;rw[Ta]at e2 g2;have h4:=hh.len;have Hv:=hx.ee;have pQ:=hx.db;have En:(dC h ns os).take 4=h:=by
  unfold dC;rw[SC,TB (by omega),SW (by omega)]
 have cL:(lG 4 ns).length=4:=BP (by omega);have hg:∀p,p<ns.length->(dC h ns os)[4+p]?=(ns[p]?).map λn:Nat=>(n:Int):=λp hp=>by
  unfold dC;rw[SC,S_ (by omega),S0 (by omega),h4,T5];unfold lG;rw[S0 (by simpa using hp),Tp]
 refine⟨by simp[dC,h4,cL,BP (k:=3) (l:=os) (by omega)],by rw[En];exact hh,λp hp=> ?_,λs hs=> ?_⟩
 ·obtain⟨n,D6⟩:=bE (xs:=ns) (i:=p) (by omega);obtain⟨y,hy⟩:=bE hp;obtain⟨q1,q2⟩:=e3 p n (bZ h y) D6 (by rw[Tp,hy];rfl);refine⟨n,by rw[hg p (by omega),D6];rfl,q1,?_⟩;rw[En];unfold bZ at q2;rw[CW]at q2;simp only[Te,lM,decide_eq_true_eq]at q2;obtain⟨a,b,c,d,rfl,_⟩:=hh.out;have e0:(dC [a,b,c,d] ns os).getD 0 0=a:=rfl;rw[e0];have:=q2.2.1.1;simp at this;exact Pz (a:=a) rfl (by omega) (by simp;omega)
 ·obtain⟨o,MT⟩:=bE (xs:=os) (i:=s) (by omega);refine⟨o,?_,by have:=g3 o (S6 MT);omega⟩;unfold dC;rw[S_ (by simp[h4,cL]),show (h++lG 4 ns).length=8 by simp[h4,cL],T5];unfold lG;rw[S0 (by have:=eW MT;simpa using this),Tp,MT];rfl
end Tk
theorem Fx{x:ak}(hx:x.Ok):x7 x:=λbt _ h hm=>by
 have hh:=aaV hx hm;refine⟨hh,λns iz a ha=> ?_⟩;obtain⟨os,h1,rfl⟩:=Tf.1 ha;exact atF hx hh iz h1
open Go.Conc
section
variable {lv:Bool}{P:SI}{s:AS}{ms:List Nat}{bs:List U8}{nt:Nat}
theorem aku{f:TY}{fn:YL}{c0 c1 c2:Uc}{rs:List UU}{H:List aa}{args:List AV}{k kp:AV->List aa->Prop}(hf:P.funcs[f]?=some fn)(hb:fn.body=some (.seq c0 (.seq c1 c2)))(hr:fn.results=rs.toArray)(hn:fn.ntmps=nt)(cN:args.length<=nt)
  (h:bJ H->(∀a∈args,Lt H.length a)->aR lv P none nt c0 ⟨bp 0 args,H⟩ λe s0=>e=.normal/\Ci lv P nt c1 s0 [] (λe s' nI=>e=.normal/\∃c,nI=[c]/\∀bs,kB lv P nt bs c2 s' [] (Ag lv P rs H.length c k kp))):ba lv P f H args k kp:=by
 intro E V vs hc hd;have hlt:∀a∈args,Lt H.length a:=λa ha=>by
  obtain⟨i,hi⟩:=p9 ha;rw[<- hc.n];exact(hd.2 i a hi).lt
 have ai:=CR (nt:=nt) hc hd cN;refine ahB (by simp) hf hb ?_;rw[hn];refine wp_seq (h hc.aq hlt E V _ _ ai λae e E0 V0 a0 s0 vp tL he0 hΦ0=> ?_);obtain⟨rfl,zi⟩:=hΦ0;cases e<;>first
  |exact he0.elim
  |skip
 have alH:a0.defers=[]:=vp.defers;refine wp_seq (zi E0 V0 a0 _ tL (by rw[alH];trivial) λae e E1 V1 a1 s1 ds1 al6 wO cQ DL hΦ1=> ?_);obtain⟨rfl,c,rfl,hw⟩:=hΦ1;have iK:=vp.d.trans al6;cases e<;>first
  |exact DL.elim
  |skip
 obtain⟨d,jl,bx⟩:∃d,a1.defers=[d]/\Aa E1 c d:=by
  match jl:a1.defers,cQ with
  |[d],cQ=>exact⟨d,rfl,cQ.1⟩
  |[],cQ=>exact cQ.elim
  |_::_::_,cQ=>exact cQ.2.elim
 refine hw [d] E1 V1 a1 _ wO ⟨by simp[jl],by simp⟩ λae e E' V' a' s' cF hk aV fY he hΦ=> ?_;have hle:E.Le E':=iK.le.trans hk.le;have fin:∀(md:Vk)(m:Option AV)(H':List aa),(md matches .run)=false->iS cF s'.H=some H'->P5 E' m md->rq lv P c H' m (λH'=>ao (ig P ⟨s'.T,H'⟩ rs) λl=>cH H.length H' (jc l) k) (λH'=>∀pv,m=some pv->cH H.length H' pv kp)->uH lv P fn (gU E V k kp) a'.defers md a'.tmps V':=by
  intro md m H' qM hg aa5 hD;refine aeQ qM cF _ H' E' V' _ hg aV.bz fY λV2 r1 r2 b_=> ?_;have alE:=bx.mono hk.le;refine⟨qM,.inr ⟨?_,?_⟩⟩
  ·obtain⟨f,first,cU,fa,ca,vs,h1,rfl,h3,h4,h5⟩:=bx;exact⟨_,_,rfl⟩
  ·refine(hD E' V2 d md b_ alE aa5).mono (λnx aU hx=> ?_) λ_ _ h=>h;obtain⟨g,args,rfl,Dl⟩:=hx;refine⟨g,args,rfl,Dl.mono λoh V3 hx=> ?_⟩;obtain⟨E3,H3,q1,q2,q3,q4,q5|q5⟩:=hx
   ·obtain⟨rfl,q5⟩:=q5;exact adn (s':=⟨s'.T,H3⟩) (a':=a') hr ⟨q4,aV.tok.mono q1,aV.size⟩ (hle.trans q1) hc.n (q2.trans (r1.trans (hk.role.trans iK.role))) (q3.trans (r2.trans (hk.deaf.trans iK.deaf))) q5
   ·obtain⟨rfl,vu,q5⟩:=q5;cases m with
    |none=>cases vu
    |some pv=>
     obtain⟨v,rfl,mw⟩:=aa5;obtain⟨b,bY,uC,t1,t2,t3,t4⟩:=yl (q5 pv rfl) q4 (mw.mono q1) (hle.trans q1) hc.n;exact⟨b,v,bY,uC,rfl,t1,q2.trans (r1.trans (hk.role.trans iK.role)),q3.trans (r2.trans (hk.deaf.trans iK.deaf)),t2,t3,t4⟩
 have akm:Ag lv P rs H.length c k kp .ret s' cF->uH lv P fn (gU E V k kp) a'.defers .returning a'.tmps V':=λhΦ=>by
  obtain⟨H',hg,hΦ⟩:=ao.out hΦ;refine fin .returning none H' rfl hg rfl λE2 V2 d2 Om c1 c2 c3=> ?_;refine(hΦ E2 V2 d2 Om c1 c2 c3).mono (λnx aU hx=> ?_) λ_ _ h=>h;obtain⟨g,args,rfl,Dl⟩:=hx;refine⟨g,args,rfl,Dl.mono λoh V3 hx=> ?_⟩;obtain⟨E3,H3,q1,q2,q3,q4,q5|q5⟩:=hx
  ·exact⟨E3,H3,q1,q2,q3,q4,.inl q5⟩
  ·exact q5.2.2.elim
 cases ae<;>cases e<;>first
  |exact he.elim
  |exact akm hΦ
  |exact hΦ.elim
  |skip
 rename_i pv ch;obtain⟨v,ff,alF⟩:∃v,ch=[{v,recovered:=false}]/\ap E' pv v:=he;subst ff;obtain⟨H',hg,hΦ⟩:=ao.out hΦ;refine fin _ (some pv) H' rfl hg ⟨v,rfl,alF⟩ λE2 V2 d2 Om c1 c2 c3=> ?_;refine(hΦ E2 V2 d2 Om c1 c2 c3).mono (λnx aU hx=> ?_) λ_ _ h=>h;obtain⟨g,args,rfl,Dl⟩:=hx;refine⟨g,args,rfl,Dl.mono λoh V3 hx=> ?_⟩;obtain⟨E3,H3,q1,q2,q3,q4,q5|q5⟩:=hx
 ·exact⟨E3,H3,q1,q2,q3,q4,.inl q5⟩
 ·exact⟨E3,H3,q1,q2,q3,q4,.inr ⟨q5.1,q5.2.1,λpv' e=>by cases e;exact q5.2.2⟩⟩
end
open Go.Proofs Go.Gg.Tk
namespace Tk
def wD (x:ak):Bool:=(SR (x.am.toNat+1)).any λbt=>(jW x bt).any λh=> !(iE x 0 h).isEmpty
end Tk
def vU:AV:=.cZ 136 (.agg [])
section
variable {lv:Bool}{H:List aa}{kr kp:List aa->Prop}
theorem aj8{r:Nat}(h:∀L,kr (H++L)):rq lv SA (.fn (.func 95) [] [.op r 0],[]) H none kr kp:=by
 refine Rh (nt:=9) (by kernel_rfl) F.f95 rfl rfl rfl rfl rfl rfl rfl rfl (by kernel_rfl) (by simp) ?_;simp only[bp,SU,UN,Vw];(try simp only[seval,F.NO]);refine ew (a:=[]) rfl ⟨rfl,by decide,by simp,?_⟩;refine aj ?_;refine aD ?_;refine agW ?_;exact .inl (h _)
theorem aj9{r:Nat}{a:AV}(hr:H[r]?=some (.cells [a] 4))(h:∀L,kr (H.set r (.cells [bv true] 4)++L)):rq lv SA (.fn (.func 95) [] [.op r 0],[]) H (some vU) kr kp:=by
 refine Rh (nt:=9) (by kernel_rfl) F.f95 rfl rfl rfl rfl rfl rfl rfl rfl (by kernel_rfl) (by simp) ?_;simp only[bp,SU,UN,S8,vU];(try simp only[seval,F.NO]);have ua:=eW hr;have za:∀L:List aa,(H++L)[r]?=some (.cells [a] 4):=λL=>fU hr;refine aj ?_;refine aD ?_;refine ab ?_;simp only[seval,za,v6 ua];exact .inl (h _)
end
def rK (x:ak)(m:Lp)(h:List Int):dE Lp:=if(iE x 0 h).isEmpty then .go .ready else .bad .busy
theorem QY{x:ak}:∀(l:List (List Int)),bK (rK x) l .ready=if l.any (λh=> !(iE x 0 h).isEmpty)=true then .bad .busy else .go .ready
 |[]=>by simp[bK]
 |h::l=>by
  have ih:=QY (x:=x) l;by_cases he:(iE x 0 h).isEmpty=true
  ·have e1:rK x .ready h=.go .ready:=(by unfold rK;rw[if_pos he]);rw[bK,e1];dsimp only;rw[ih];simp only[Y2,he,aq_,ZH]
  ·have e1:rK x .ready h=.bad .busy:=(by unfold rK;rw[if_neg he]);rw[bK,e1];dsimp only;have e2:(iE x 0 h).isEmpty=false:=(by simpa using he);simp only[Y2,e2,YM,am',if_true]
theorem ahb(l:List (List Int)):bK (λ(_:Lp) (_:List Int)=>(.bad .busy:dE Lp)) l .ready=if l.isEmpty then .go .ready else .bad .busy:=by
 cases l<;>rfl
def C1 (x:ak)(i:Nat):List aa:=[.cells x.l 76,.cells [iv i] 3,.obj (.deferred (some [])),.gone]
def kE (x:ak)(H:List aa):Nat->List aa
 |0=>H++[.cells x.l 76,.cells [bv false] 4]
 |i+1=>kE x H i++C1 x i
def yf (H:List aa):Nat->List Nat
 |0=>[]
 |i+1=>(H.length+2+4* i+2)::yf H i
theorem Kd(x:ak)(H:List aa):∀i,(kE x H i).length=H.length+2+4* i
 |0=>by simp[kE]
 |i+1=>by simp[kE,C1,Kd x H i];omega
theorem QX(x:ak)(H:List aa):∀i,∃Y,kE x H i=H++[.cells x.l 76,.cells [bv false] 4]++Y
 |0=>⟨[],by simp[kE]⟩
 |i+1=>by
  obtain⟨Y,h⟩:=QX x H i;exact⟨Y++C1 x i,by rw[kE,h,SC]⟩
theorem Kc(x:ak)(H:List aa):∀(i:Nat)(L:List aa),∃Y,iS (yf H i) (kE x H i++L)=some (H++[.cells x.l 76,.cells [bv false] 4]++Y)
 |0,L=>⟨L,by rw[yf,AP,kE]⟩
 |i+1,L=>by
  have hl:=Kd x H i;have e:(kE x H (i+1)++L)=kE x H i++(C1 x i++L):=by rw[kE,SC]
  have hg:(kE x H i++(C1 x i++L))[H.length+2+4* i+2]?=some (.obj (.deferred (some []))):=by rw[<- hl,aZ];rfl
  obtain⟨Y,hY⟩:=Kc x H i ([.cells x.l 76,.cells [iv i] 3,.gone,.gone]++L);refine⟨Y,?_⟩;rw[yf,e,AN hg,<- hl,dH];exact hY
theorem QW(x:ak)(H:List aa)(i:Nat)(L:List aa):(kE x H i++L)[H.length]?=some (.cells x.l 76)/\(kE x H i++L)[H.length+1]?=some (.cells [bv false] 4):=by
 obtain⟨Y,h⟩:=QX x H i;rw[h,SC,SC];exact⟨aZ H _ 0,aZ H _ 1⟩
section
variable {lv:Bool}
theorem akA{P:SI}(rs:List UU)(n:Nat)(c:AV×List AV)(k kp:AV->List aa->Prop)(pv:AV)(s:AS)(ms:List Nat):Ag lv P rs n c k kp (.panic pv) s ms=ao (iS ms s.H) λH'=>rq lv P c H' (some pv) (λH'=>ao (ig P ⟨s.T,H'⟩ rs) λl=>cH n H' (jc l) k) (λH'=>cH n H' pv kp):=by rw[Ag]
theorem akB{P:SI}(rs:List UU)(n:Nat)(c:AV×List AV)(k kp:AV->List aa->Prop)(s:AS)(ms:List Nat):Ag lv P rs n c k kp .ret s ms=ao (iS ms s.H) λH'=>rq lv P c H' none (λH'=>ao (ig P ⟨s.T,H'⟩ rs) λl=>cH n H' (jc l) k) (λ_=>False):=by rw[Ag]
theorem ajV{H:List aa}{k kp:AV->List aa->Prop}{x:ak}(hx:x.Ok)(hk:k (bv (wD x)) H):ba lv SA 71 H [x.av] k kp:=by
 refine aku (rs:=[.cell 2 4]) (nt:=24) F.f71 rfl rfl rfl (by simp) λhH hA=> ?_;simp only[bp,SU,ak.av];have Lu:=Fx hx;have hp:=hx.am;obtain⟨p,iA⟩:∃p:Nat,x.am=p:=⟨x.am.toNat,by omega⟩;have bU:x.l=[iv x.first,iv x.hours,iv x.am,c_ x.seen,aN x.pieces,aN x.aC]:=rfl;have bi:∀(L:List aa),(H++L)[H.length]?=L[0]?:=λL=>aZ H L 0;have hw:SD.wrap (x.am+1)=((p+1:Nat):Int):=by rw[iA,bc _ (by omega)];rfl
 refine ab ?_;simp only[seval,F.Qa];refine QI (n:=1) rfl rfl rfl rfl rfl rfl (by kernel_rfl) ?_;(try simp only[seval,Uf,UH,Um,T1]);refine⟨⟨_,_,_,rfl⟩,_,rfl,λbs=> ?_⟩;refine Gb ?_;refine td ?_;refine ab ?_;simp only[seval,bi,bU,hw];refine yb ?_;refine QJ (measure λi=>p+1-i).wf (λi:Nat=>⟨[(10,iv i),(9,iv ((p+1:Nat):Int)),(2,.op (H.length+1) 0),(1,.op H.length 0)],kE x H i⟩) (λi=>yf H i) (λi=>i<=p+1/\∀j,j<i->∀h∈jW x j,(iE x 0 h).isEmpty=true) 0 (dW (by simp only[seval];simp[bk,Wk.refl]) rfl) rfl ⟨by omega,λj hj=>by omega⟩ λi aq=> ?_;obtain⟨oS,fA⟩:=aq;have cO:=Kd x H i;have oO:=λL=>(QW x H i L).1;have yH:=λL=>(QW x H i L).2;obtain⟨N,hN⟩:∃N,N=H.length+2+4* i:=⟨_,rfl⟩;rw[<- hN]at cO;have hbx:(kE x H i)[H.length]?=some (.cells x.l 76):=by have:=oO [];rwa [SN]at this
 refine td ?_;refine aj ?_;refine td ?_;refine aD ?_;refine⟨λh=> ?_,λh=> ?_⟩
 ·
  have qI:i<=3:=by omega
  refine aF ?_;refine Gb ?_;refine yb ?_;refine td ?_;refine aj ?_;refine td ?_;refine ab ?_;simp only[seval,hbx,bU];refine aK ((KW (x:=x) (n:=i) ?_));rw[cO];(try simp only[seval]);refine yb ?_;refine J5 (by rfl) λl fn T ag bo hT yF qG=> ?_;have mq:(kE x H i++[aa.cells x.l 76,aa.cells [iv i] 3]).length=N+2:=by rw[SQ,cO];rfl
  (try simp only[seval]);rw[cO];obtain⟨B,hB⟩:∃B,B=kE x H i:=⟨_,rfl⟩;rw[<- hB]at cO hbx oO yH⊢;have bg:∀(L:List aa)(j:Nat),(B++L)[N+j]?=L[j]?:=λL j=>by rw[<- cO,aZ]
  have Gd:∀(L:List aa)(j:Nat)(y:aa),(B++L).set (N+j) y=B++L.set j y:=λL j y=>by rw[<- cO,dH]
  have aaK:∀(M:List aa)(lp:Lp),bJ (B++([aa.cells x.l 76,.cells [iv i] 3,.obj (.deferred (some [])),.loop l .ready none fn T 24 #[16] ag bo (N+2)]++M))->bJ (B++([aa.cells x.l 76,.cells [iv i] 3,.obj (.deferred (some [])),.loop l lp.st lp.pe fn T 24 #[16] ag bo (N+2)]++M)):=λM lp iu z hz=>by
   have hlen:(B++([aa.cells x.l 76,.cells [iv i] 3,.obj (.deferred (some [])),.loop l lp.st lp.pe fn T 24 #[16] ag bo (N+2)]++M)).length=(B++([aa.cells x.l 76,.cells [iv i] 3,.obj (.deferred (some [])),.loop l .ready none fn T 24 #[16] ag bo (N+2)]++M)).length:=(by simp);have hl:=iu (.loop l .ready none fn T 24 #[16] ag bo (N+2)) (by simp);rw[hlen];rcases SV.1 hz with h'|h'
   ·exact iu z (Ti _ h')
   ·rcases SV.1 h' with h'|h'
    ·simp only[SK,SZ,or_false]at h';rcases h' with rfl|rfl|rfl|rfl
     ·exact iu _ (by simp)
     ·exact iu _ (by simp)
     ·exact iu _ (by simp)
     ·exact hl
    ·exact iu z (S5 _ (S5 _ h'))
  have hY:jQ lv SA (.fn (.yield l) [] []) (rK x) (λlp:Lp=>B++[.cells x.l 76,.cells [iv i] 3,.obj (.deferred (some [])),.loop l lp.st lp.pe fn T 24 #[16] ag bo (N+2)]) (N+4) (λlp=>lp=.ready) (λh=>mM h/\∀ns∈f_ x h,∀a∈(iD x h ns).map (dC h ns),jB x a) vU:=by
   refine⟨λlp h M k kp gZ ha dI=> ?_,λlp h EJ gZ ha he=> ?_,λlp=>by simp[cO],λm lp EJ hz z fj=> ?_,rfl,rfl,rfl⟩
   ·replace gZ:lp=.ready:=gZ;subst gZ;obtain⟨pK,xh⟩:=ha;have h4:=pK.len;have nM:(h.map iv).length=4:=(by rw[Ta,h4]);obtain⟨Lo,lj⟩:∃Lo,Lo=aa.loop l .busy none fn T 24 #[16] ag bo (N+2):=⟨_,rfl⟩;obtain⟨P1,dz⟩:∃P1:List aa,P1=B++([.cells x.l 76,.cells [iv i] 3,.obj (.deferred (some [])),Lo]++M):=⟨_,rfl⟩;have eC:P1.length=N+4+M.length:=(by rw[dz];simp[cO];omega);have pg3:∀(L:List aa),(P1++L)[N+3]?=some Lo:=λL=>(by rw[dz,SC,bg];rfl);have px:∀(L:List aa),(P1++L)[H.length]?=some (.cells x.l 76):=λL=>(by rw[dz,SC];exact oO _);have pb:∀(L:List aa)(j:Nat),(P1++L)[N+4+M.length+j]?=L[j]?:=λL j=>(by rw[<- eC,aZ]);have xA:∀(L:List aa),(P1++L)[N+4+M.length]?=L[0]?:=λL=>pb L 0;have qe:∀(L:List aa)(y:aa),(P1++L).set (N+4+M.length+4) y=P1++L.set 4 y:=λL y=>(by rw[<- eC,dH]);have s3:∀(L:List aa) y,(P1++L).set (N+3) y=B++([.cells x.l 76,.cells [iv i] 3,.obj (.deferred (some [])),y]++M)++L:=λL y=>by
     rw[dz,SC,Gd];simp
    subst hT yF qG;rw[SC];refine wC (id:=N+3) (by rw[bg];rfl) rfl (by kernel_rfl) λoI Lv=> ?_;simp only[sR];have wX:TR 4 [iv 0,iv 0,iv 0,iv 0]=[]:=rfl;refine ab ?_;simp only[seval,h4,wX];unfold uG;refine⟨none,fn,_,24,#[16],_,_,_,by rw[bg];rfl,?_⟩;dsimp only;rw[Gd];simp only[UK,T9];rw[<- lj];have yA:B.length+(M.length+1+1+1+1)=N+4+M.length:=(by rw[cO];omega);rw[yA];have yQ:∀z:aa,(B++aa.cells x.l 76::aa.cells [AV.val (SF SD ↑i)] 3::aa.obj (awd (some []))::Lo::(M++[z]))=P1++[z]:=λz=>(by rw[dz];simp[iv]);rw[yQ];refine ab ?_;simp only[seval,px,bU,xA,h4,nM];rw[SW (i:=4) (l:=h.map iv) (by rw[nM];exact SO _)];refine aK ((KX (x:=x) (h:=h) (deep:=0) ?_));(try simp only[seval]);refine bP ?_;refine F' (N+3) (by rfl) (by show (P1++_)[N+3]?=_;rw[pg3,lj]) λl2 eV T2 gF gG oL yG yI=> ?_;simp only[seval];rw[eC];have yE:jQ lv SA (.fn (.yield l2) [] []) (λ(_:Lp) (_:List Int)=>(.bad .busy:dE Lp)) (λlp:Lp=>P1++[.cells (h.map iv) 83,.cells x.l 76,.cells (h.map iv) 83,.cells [iv 0] 3,.loop l2 lp.st lp.pe eV T2 24 #[20] gF gG (N+2)]) (N+4+M.length+5) (λlp=>lp=.ready) (λa=>a.length=11) vU:=by
     refine⟨λlp t M2 k2 zp gZ ht lx=> ?_,λlp t EJ gZ ht he=>(by cases he),λlp=>by simp[eC],λq lp EJ hz z fj=> ?_,rfl,rfl,rfl⟩
     ·replace gZ:lp=.ready:=gZ;subst gZ;simp only[cW]at lx;have mb:∀(L:List aa),(P1++L)[N+4+M.length+4]?=L[4]?:=λL=>pb L 4;subst oL yG yI;rw[SC];refine wC (id:=N+4+M.length+4) (by rw[mb];rfl) rfl (by kernel_rfl) λrQ Lw=> ?_;simp only[sR];refine aF ?_;unfold uG;refine⟨none,eV,_,24,#[20],_,_,_,by rw[mb];rfl,?_⟩;dsimp only;rw[qe];simp only[UK,T9];refine ab ?_;simp only[seval,F.NO];show cH _ (P1++_) _ zp;rw[SC]at lx;exact ce lx
     ·rcases SV.1 fj with h'|h'
      ·exact hz z (Ti _ h')
      ·have hl:=hz _ (S5 _ (S6 (i:=4) rfl));simp only[SK,SZ,or_false]at h';rcases h' with rfl|rfl|rfl|rfl|rfl
       ·exact hz _ (S5 _ (by simp))
       ·exact hz _ (S5 _ (by simp))
       ·exact hz _ (S5 _ (by simp))
       ·exact hz _ (S5 _ (by simp))
       ·exact hl
    rw[eC]at oL;have Hp:∀n,Lt n vU:=λn=>(by simp[vU,acg,uk]);refine dc (K1 (x:=x) (h:=h) (deep:=0) (ir:=N+4+M.length+1) (ih:=N+4+M.length+1+1) (id:=N+4+M.length+1+2) (σ:=Lp.ready) hx pK yE (λlp L=> ?_) (λlp L=> ?_) (λlp L=> ?_) Hp rfl (λa ha=>ha) (λns iz a ha=>(xh ns iz a ha).len) ?_)
    ·rw[SC];exact pb _ 1
    ·rw[SC];exact pb _ 2
    ·rw[SC];exact pb _ 3
    rw[ahb];have mb:∀(L:List aa),(P1++L)[N+4+M.length+4]?=L[4]?:=λL=>pb L 4;by_cases tO:(iE x 0 h).isEmpty=true
    ·rw[if_pos tO];have e1:rK x .ready h=.go .ready:=(by unfold rK;rw[if_pos tO]);rw[e1]at dI;simp only[cW]at dI;simp only[gg,SN];refine⟨.ready,none,_,_,_,_,_,_,_,by rw[mb];rfl,by decide,?_⟩;rw[qe,IM];(try simp only[seval]);show pu _ _ _ _ _ _ _;refine⟨l,.busy,none,fn,_,24,#[16],_,_,N+2,by show (P1++_)[_]?=_;rw[pg3,lj],?_⟩;show cH (N+4+M.length) ((P1++_).set _ _) _ k;rw[s3];rw[SC]at dI;exact jE (G:=[.cells (h.map iv) 83,.cells x.l 76,.cells (h.map iv) 83,.cells [iv 0] 3,.gone]) (Wk.refl _) (by simp[iv];exact⟨rfl,rfl⟩) (by simp[cO];omega) (aaK M .ready oI) (.val _) dI
    ·rw[if_neg tO];have e1:rK x .ready h=.bad .busy:=(by unfold rK;rw[if_neg tO]);rw[e1]at dI;simp only[cW]at dI;simp only[gg,SN];show cH (N+4+M.length) (P1++_) vU kp;rw[SC]at dI;refine jE (H':=B++([aa.cells x.l 76,.cells [iv i] 3,.obj (.deferred (some [])),.loop l Lp.busy.st Lp.busy.pe fn _ 24 #[16] _ _ (N+2)]++M)) (Wk.refl _) (by rw[dz,lj];rfl) (by simp[cO];omega) (aaK M .busy oI) (Hp _) dI
   ·replace gZ:lp=.ready:=gZ;subst gZ;unfold rK at he;split at he
    ·cases he;rfl
    ·cases he
   ·rcases SV.1 fj with h'|h'
    ·exact hz z (Ti _ h')
    ·have hl:=hz _ (S5 _ (S6 (i:=3) rfl));simp only[SK,SZ,or_false]at h';rcases h' with rfl|rfl|rfl|rfl
     ·exact hz _ (S5 _ (by simp))
     ·exact hz _ (S5 _ (by simp))
     ·exact hz _ (S5 _ (by simp))
     ·exact hl
  have Hp:∀n,Lt n vU:=λn=>by simp[vU,acg,uk]
  refine dc (KZ (x:=x) (bt:=i) (ir:=N) (it:=N+1) (σ:=Lp.ready) hx hY (λlp L=> ?_) (λlp L=> ?_) qI Hp rfl (λa ha=>Lu i qI a ha) ?_)
  ·rw[SC];exact bg _ 0
  ·rw[SC];exact bg _ 1
  rw[QY];have bH:SD.wrap ((i:Int)+1)=((i+1:Nat):Int):=by rw[bc _ (by omega)];rfl
  by_cases GR:(jW x i).any (λh=> !(iE x 0 h).isEmpty)=true
  ·rw[if_pos GR];have LY:wD x=true:=by
    unfold wD;rw[UO];exact⟨i,by rw[TG];omega,GR⟩
   rw[LY]at hk;simp only[gg,SN];(try simp only[seval,akA]);obtain⟨Y,wN⟩:=Kc x H i [.cells x.l 76,.cells [iv i] 3,.gone,.loop l .busy none fn T 24 #[16] ag bo (N+2)];rw[<- hB]at wN;have hgo:iS ((N+2)::yf H i) (B++[.cells x.l 76,.cells [iv i] 3,.obj (.deferred (some [])),.loop l Lp.busy.st Lp.busy.pe fn T 24 #[16] ag bo (N+2)])=some (H++[.cells x.l 76,.cells [bv false] 4]++Y):=by
    rw[AN (by rw[bg];rfl),Gd];exact wN
   refine ew hgo ?_;have dt:(H++[aa.cells x.l 76,.cells [bv false] 4]++Y)[H.length+1]?=some (.cells [bv false] 4):=(by rw[SC];exact aZ H _ 1);refine aj9 dt λL=> ?_;have b_:((H++[aa.cells x.l 76,.cells [bv false] 4]++Y).set (H.length+1) (.cells [bv true] 4)++L)[H.length+1]?=some (.cells [bv true] 4):=by
    rw[SC,dH,SC];exact aZ H _ 1
   (try simp only[seval,ig,vX,b_,aa.cellsOf]);exact ji hH hk
  ·rw[if_neg GR];simp only[gg,SN];refine⟨.ready,none,_,_,_,_,_,_,_,by show (B++_)[N+3]?=_;rw[bg];rfl,by decide,?_⟩;rw[show N+2+1=N+3 from rfl,Gd,IL];(try simp only[seval]);refine Ga ?_;refine ab ?_;simp only[seval,bH];refine⟨i+1,?_,⟨by omega,λj hj g hm=> ?_⟩,dW (by push_cast;simp only[seval];simp[bk,Wk.refl]) (by rw[hB];rfl),by rw[yf,hN]⟩
   ·show p+1-(i+1)<p+1-i;omega
   ·by_cases cx:j<i
    ·exact fA j cx g hm
    ·have:j=i:=(by omega);subst this;apply Tv;intro aH;exact GR (UO.2 ⟨g,hm,by simpa using aH⟩)
 ·
  have dB:i=p+1:=by omega
  subst dB;have LY:wD x=false:=by
   unfold wD;rw[Bool.eq_false_iff];intro hc;obtain⟨j,h1,h2⟩:=UO.1 hc;obtain⟨h,h3,h4⟩:=UO.1 h2;rw[TG]at h1;have:=fA j (by omega) h h3;rw[this]at h4;cases h4
  rw[LY]at hk;have aaC:(kE x H (p+1))[H.length+1]?=some (.cells [bv false] 4):=by have:=yH [];rwa [SN]at this
  refine bO ?_;refine td ?_;refine ab ?_;simp only[seval,aaC];rw[rh aaC];refine Ga ?_;refine oD ?_;rw[akB];obtain⟨Y,wN⟩:=Kc x H (p+1) [];rw[SN]at wN;refine ew wN ?_;refine aj8 λL=> ?_;have b_:(H++[aa.cells x.l 76,.cells [bv false] 4]++Y++L)[H.length+1]?=some (.cells [bv false] 4):=by
   rw[SC,SC];exact aZ H _ 1
  (try simp only[seval,ig,vX,b_,aa.cellsOf]);exact ji hH hk
end
open Go.Conc Go.Proofs Go.Gg.Tk
section
variable {lv:Bool}{H:List aa}{k kp:AV->List aa->Prop}
theorem tw{n lo hi:Int}(hk:k (bv (decide (n<lo)||decide (n>hi))) H):ba lv SA 59 H [iv n,iv lo,iv hi] k kp:=by
 refine bD (rs:=[.tmp 6]) (nt:=15) Tryz.f59 λhH hA=> ?_;simp only[bp,SU];refine aj ?_;by_cases h:n<lo
 ·have h1:decide (n<lo)=true:=by simpa using h
  refine ab ?_;simp only[seval,h1];refine aX ?_;rw[h1,am']at hk;exact ce hk
 ·have h1:decide (n<lo)=false:=by simpa using h
  refine ab ?_;simp only[seval,h1];refine aX ?_;rw[h1,ZH]at hk;exact ce hk
theorem KP{b:iQ}{hi e at':Int}(hb:sU b hi)(hk:k (.val .nilIface) H):ba lv SA 104 H [b.av,iv hi,iv e,iv at'] k kp:=by
 refine bD (rs:=[.tmp 8]) (nt:=33) Tryz.f104 λhH hA=> ?_;simp only[bp,SU,iQ.av];have h1:(decide (b.min<0)||decide (b.min>hi))=false:=by have:=hb.min;have:=hb.le;have:=hb.max;simp;omega
 have h2:(decide (b.max<0)||decide (b.max>hi))=false:=by have:=hb.min;have:=hb.le;have:=hb.max;simp;omega
 have h3:decide (b.min>b.max)=false:=by have:=hb.le;simp;omega
 refine aj ?_;refine ab ?_;simp only[seval,iQ.l];refine aK ((tw ?_));(try simp only[seval,h1]);refine aK ((tw ?_));(try simp only[seval,h2]);refine aD ?_;refine ab ?_;simp only[seval,h3];refine aD ?_;refine aF ?_;refine aj ?_;refine aX ?_;exact ji hH hk
theorem ajL(hk:k (bv true) H):ba lv SA 52 H [] k kp:=by
 refine bD (rs:=[.tmp 0]) (nt:=1) Tryz.f52 λhH hA=> ?_;simp only[bp,SU];refine aj ?_;refine aj ?_;refine aX ?_;exact ce hk
theorem ai9{t:AV}(hk:k (bv false) H):ba lv SA 105 H [.val .nilIface,t] k kp:=by
 refine bD (rs:=[.tmp 4]) (nt:=42) Tryz.f105 λhH hA=> ?_;simp only[bp,SU];refine aj ?_;refine ab ?_;simp only[seval,F.Ez];refine aD ?_;refine aj ?_;refine aX ?_;exact ce hk
theorem aj3(hk:k (iv 0) H):ba lv SA 84 H [.val .nilIface] k kp:=by
 refine bD (rs:=[.tmp 2]) (nt:=9) Tryz.f84 λhH hA=> ?_;simp only[bp,SU];refine aj ?_;refine aj ?_;refine ab ?_;simp only[seval,F.anp];refine aK ((ai9 ?_));(try simp only[seval]);refine aD ?_;refine aF ?_;refine aj ?_;refine aX ?_;exact ji hH hk
theorem aj2{x:ak}{y:Seen}{at':Int}(hh:0<=y.hour/\y.hour<=x.hours)(hb:sU y.next 99)(hk:k (.val .nilIface) H):ba lv SA 83 H [x.av,y.av,iv at'] k kp:=by
 refine bD (rs:=[.tmp 6]) (nt:=19) Tryz.f83 λhH hA=> ?_;simp only[bp,SU,ak.av,Seen.av];have bU:x.l=[iv x.first,iv x.hours,iv x.am,c_ x.seen,aN x.pieces,aN x.aC]:=rfl;have h1:(decide (y.hour<0)||decide (y.hour>x.hours))=false:=by simp;omega
 refine ab ?_;simp only[seval,bU,Seen.l];refine aj ?_;refine aK ((tw ?_));(try simp only[seval,h1]);refine aD ?_;refine aF ?_;refine aj ?_;refine aK ((KP (b:=y.next) hb ?_));(try simp only[seval]);refine aX ?_;exact ji hH hk
theorem Si{x:ak}{l:List aB}(hx:x.Ok)(hl:∀y∈l,JD x y)(oU:l.length<=4)(hk:k (.val .nilIface) H):ba lv SA 85 H [x.av,aN l] k kp:=by
 refine bD (rs:=[.tmp 4]) (nt:=34) Tryz.f85 λhH hA=> ?_;simp only[bp,SU,ak.av];have bU:x.l=[iv x.first,iv x.hours,iv x.am,c_ x.seen,aN x.pieces,aN x.aC]:=rfl;have bi:∀(L:List aa),(H++L)[H.length]?=L[0]?:=λL=>aZ H L 0;have yS:=hx.hours;have zi:SD.wrap (x.hours-1)=x.hours-1:=bc _ (by omega);refine ab ?_;simp only[seval,bU];refine ab ?_;simp only[seval,aN];refine bP ?_;refine qu l.length (λi:Nat=>[(11,iv i)]) (λ_=>_) (λi=>True) trivial (λbw bG i cw _ R hR=> ?_);refine aj ?_;refine aD ?_;refine⟨λh=> ?_,λh=> ?_⟩
 ·have br:i<l.length:=by omega
  obtain⟨y,hy⟩:=bE br;have Eu:=hl y (S6 hy);have bH:SD.wrap ((i:Int)+1)=((i+1:Nat):Int):=by rw[bc _ (by omega)];rfl
  refine aF ?_;refine ab ?_;simp only[seval,xG hy,iR br];refine aj ?_;refine aK ((KP (b:=y.number) Eu.number ?_));(try simp only[seval]);refine ab ?_;simp only[seval,F.Ez];refine aD ?_;refine aF ?_;refine ab ?_;simp only[seval,bi,zi];refine aK ((KP (b:=y.hour) Eu.hour ?_));(try simp only[seval]);refine ab ?_;simp only[seval,F.Ez];refine aD ?_;refine aF ?_;refine ab ?_;simp only[seval,bH];exact hR _ ⟨br,trivial,BU (lC rfl rfl) (by simp only[seval];simp[bk,Wk.refl]) bw (by simp[dZ])⟩
 ·refine bO ?_;refine aj ?_;refine aX ?_;exact ji hH hk
theorem KV{x:ak}(hx:x.Ok)(hk:k (iv 0) H):ba lv SA 62 H [x.av] k kp:=by
 refine bD (rs:=[.tmp 2]) (nt:=62) Tryz.f62 λhH hA=> ?_;simp only[bp,SU,ak.av];have bU:x.l=[iv x.first,iv x.hours,iv x.am,c_ x.seen,aN x.pieces,aN x.aC]:=rfl;have bi:∀(L:List aa),(H++L)[H.length]?=L[0]?:=λL=>aZ H L 0;have h1:(decide (x.first<0)||decide (x.first>90))=false:=by have:=hx.first;simp;omega
 have h2:(decide (x.hours<1)||decide (x.hours>3))=false:=by have:=hx.hours;simp;omega
 have h3:(decide (x.am<1)||decide (x.am>3))=false:=by have:=hx.am;simp;omega
 have g3:decide ((3:Int)<x.seen.length)=false:=by have:=hx.xE;simp;omega
 have g4:decide ((4:Int)<x.pieces.length)=false:=by have:=hx.ee;simp;omega
 have g5:decide ((3:Int)<x.aC.length)=false:=by have:=hx.db;simp;omega
 refine ab ?_;simp only[seval,bU];refine ab ?_;simp only[seval,bi];refine aK ((tw ?_));(try simp only[seval,h1,bi]);refine aK ((tw ?_));(try simp only[seval,h2,bi]);refine aK ((tw ?_));(try simp only[seval,h3]);refine aD ?_;refine aF ?_;refine ab ?_;simp only[seval,bi,c_,g3];refine aD ?_;refine aF ?_;refine ab ?_;simp only[seval,bi,c_];refine bP ?_;refine qu x.seen.length (λi:Nat=>[(27,iv i)]) (λ_=>_) (λi=>True) trivial (λbw bG i cw _ R hR=> ?_);refine aj ?_;refine aD ?_;refine⟨λh=> ?_,λh=> ?_⟩
 ·have br:i<x.seen.length:=by omega
  obtain⟨y,hy⟩:=bE br;have Eu:=hx.seen y (S6 hy);have bH:SD.wrap ((i:Int)+1)=((i+1:Nat):Int):=by have:=hx.xE;rw[bc _ (by omega)];rfl
  refine aF ?_;refine ab ?_;simp only[seval,Pj hy,iR br];refine ab ?_;simp only[seval,bi];refine aK ((aj2 (x:=x) (y:=y) Eu.1 Eu.2 ?_));(try simp only[seval]);refine ab ?_;simp only[seval,F.Ez];refine aD ?_;refine aF ?_;refine ab ?_;simp only[seval,bH];exact hR _ ⟨br,trivial,BU (lC rfl rfl) (by simp only[seval];simp[bk,Wk.refl]) bw (by simp[dZ])⟩
 ·refine bO ?_;refine ab ?_;simp only[seval,bi,aN,g4];refine aD ?_;refine aF ?_;refine ab ?_;simp only[seval,bi];refine aK ((Si (x:=x) (l:=x.pieces) hx hx.piece hx.ee ?_));(try simp only[seval]);refine ab ?_;simp only[seval,F.Ez];refine aD ?_;refine aF ?_;refine ab ?_;simp only[seval,bi,g5];refine aD ?_;refine aF ?_;refine ab ?_;simp only[seval,bi];refine aK ((Si (x:=x) (l:=x.aC) hx hx.stub (by have:=hx.db;omega) ?_));(try simp only[seval]);refine aK ((aj3 ?_));(try simp only[seval]);refine aX ?_;exact ji hH hk
end
def P2 (lv:Bool)(H:List aa)(f:AV)(b:Bool):Prop:=∀(L:List aa)(k kp:AV->List aa->Prop),k (bv b) (H++L)->je lv SA f (H++L) [] k kp
def rk:List AV:=[iv 0,iv 0,iv 0,.sl 0 [] .exact,.sl 0 [] .exact,.sl 0 [] .exact]
def fl (D:Kn):Int:=if D.has then 0 else 11
theorem AH{x:ak}{deep:Int}{p:Nat}{H:List aa}{k kp:AV->List aa->Prop}{f:AV}{b:Bool}(hx:x.Ok)(hp:x.am=p)(hm:H[0]?=some .main)(hf:P2 true H f b)(iK:b=false->k (.aQ [.agg rk,.agg jx,iv 3]) H)(cI:b=true->∀js D L mp,js.Perm (SR (p+1))->ox x deep js D->bR D->H.length<=mp->(H++L)[mp]?=some (setH D.aL)->k (.aQ [x.av,.agg (D.l mp),iv (fl D)]) (H++L)):ba true SA 51 H [x.av,iv deep,f] k kp:=by
 refine bD (rs:=[.cell 6 76,.cell 7 88,.tmp 8]) (nt:=36) Tryz.f51 λhH hA=> ?_;simp only[bp,SU,ak.av];have bU:x.l=[iv x.first,iv x.hours,iv x.am,c_ x.seen,aN x.pieces,aN x.aC]:=rfl;have bi:∀(L:List aa),(H++L)[H.length]?=L[0]?:=λL=>aZ H L 0;have cQ:∀(L:List aa),(H++L)[H.length+1]?=L[1]?:=λL=>aZ H L 1;have kq:∀(L:List aa),(H++L)[H.length+2]?=L[2]?:=λL=>aZ H L 2;refine aj ?_;refine ab ?_;simp only[seval,bi,bU];refine aK ((KV (x:=x) hx ?_));(try simp only[seval]);refine aj ?_;refine aD ?_;refine aF ?_;refine aj ?_;refine ye (hf _ _ _ ?_);(try simp only[seval]);refine aD ?_;refine⟨λhb=> ?_,λhb=> ?_⟩
 ·have dG:b=false:=by simpa using hb
  have:=iK dG;refine aj ?_;refine oD ?_;simp only[seval,cQ,kq];exact iH hH (Wk.refl _) (by simp[jM,uk,dZ,rk,jx,Og]) this
 ·have dG:b=true:=by simpa using hb
  refine aF ?_;refine ab ?_;simp only[seval,bi];refine⟨⟨rfl,rfl,rfl⟩,?_⟩;have rW:∀(L:List aa),(H++L)[H.length+3]?=L[3]?:=λL=>aZ H L 3;refine ab ?_;simp only[seval,rW];refine aK ((ajZ (x:=x) hx (Fx hx) hp (fU hm) λjs D L5 iJ jH eo hl5=> ?_));have fe:=λmp=>Kn.len eo mp;have jY:=vN D;obtain⟨z0,z1,z2,z3,z4,rfl⟩:∃z0 z1 z2 z3 z4,L5=[z0,z1,z2,z3,z4]:=by
   match L5,hl5 with
   |[a,b,c,d,e],_=>exact⟨a,b,c,d,e,rfl⟩
  (try simp only[seval,fe]);refine⟨jY _,?_⟩;have fJ:∀(L:List aa)(j:Nat),(H++L)[H.length+j]?=L[j]?:=λL j=>aZ H L j;have vC:∀(L:List aa)(j:Nat)(y:aa),(H++L).set (H.length+j) y=H++L.set j y:=λL j y=>dH H L j y;have alC:∀(L:List aa),(H++L)[H.length+10]?=L[10]?:=λL=>aZ H L 10;obtain⟨mp,tU⟩:∃mp,mp=H.length+4+5:=⟨_,rfl⟩;rw[<- tU];refine ab ?_;simp only[seval,alC,Kn.Dg];obtain⟨jZ,fh⟩:∃jZ:List AV->List AV->List aa,∀u v,jZ u v=H++[.cells x.l 26,.cells u 76,.cells v 88,.cells x.l 76,z0,z1,z2,z3,z4,setH D.aL,.cells (D.l mp) 88]:=⟨_,λ_ _=>rfl⟩;have p1:∀u v,(jZ u v)[H.length+1]?=some (.cells u 76):=λu v=>by rw[fh,fJ];rfl
  have p2:∀u v,(jZ u v)[H.length+2]?=some (.cells v 88):=λu v=>by rw[fh,fJ];rfl
  have p3:∀u v,(jZ u v)[H.length+3]?=some (.cells x.l 76):=λu v=>by rw[fh,fJ];rfl
  have p10:∀u v,(jZ u v)[H.length+10]?=some (.cells (D.l mp) 88):=λu v=>by rw[fh,fJ];rfl
  have s1:∀u v w,(jZ u v).set (H.length+1) (.cells w 76)=jZ w v:=λu v w=>by rw[fh,vC,fh];rfl
  have s2:∀u v w,(jZ u v).set (H.length+2) (.cells w 88)=jZ u w:=λu v w=>by rw[fh,vC,fh];rfl
  have dS:∀(e:Int),e=fl D->k (.aQ [x.av,.agg (D.l mp),iv e]) (jZ x.l (D.l mp)):=λe he=>by
   rw[he,fh];refine cI dG js D _ mp iJ jH eo (by omega) ?_;rw[tU,show H.length+4+5=H.length+9 from rfl,fJ];rfl
  have e0:=fh rk jx;simp only[rk,jx,bU,iv,bv,wv,TO,Vs,UN,push_cast,Int.cast_ofNat_Int]at e0;rw[<- e0];clear e0;have da:x.l.length=6:=rfl;have oZ:jx.length=28:=rfl;have hzr:rk.length=6:=rfl;have fL:Uh 6 x.l=x.l:=rfl;have HL:Uh 28 (D.l mp)=D.l mp:=SW (by rw[fe];exact SO _);have wW:∀l:List AV,l.length=28->D.l mp++TR (D.l mp).length l=D.l mp:=λl hl=>by rw[fe,T7 (by omega),SN]
  have abD:∀a∈x.l,a.leaf=true:=λa ha=>by
   simp only[ak.l,SK,SZ,or_false]at ha;rcases ha with rfl|rfl|rfl|rfl|rfl|rfl<;>rfl
  refine aD ?_;refine⟨λhh=> ?_,λhh=> ?_⟩
  ·have Ly:D.has=false:=(by simpa using hh);have:=dS 11 (by rw[fl,Ly];rfl);refine nB [2,3] [0,1,2,3,4] (λD'=>bif isDone 3 D' then jZ x.l (D.l mp)else bif isDone 2 D' then jZ x.l jx else jZ rk jx) ?_;simp only[seval,p1,p2,p3,p10,s1,s2,fe,da,oZ,hzr,jY];rw[fL,HL];refine⟨rfl,SO _,abD,rfl,fe _,by rw[fe];exact SO _,jY _,by rw[wW _ rfl];rfl,?_⟩;refine oD ?_;simp only[seval,p1,p2,fe];rw[HL];refine ew (a:=[x.av,.agg (D.l mp),iv 11]) rfl ?_;exact ce this
  ·have Ly:D.has=true:=(by simpa using hh);have:=dS 0 (by rw[fl,Ly];rfl);refine aF ?_;refine nB [2,3] [0,1,2,3,4] (λD'=>bif isDone 3 D' then jZ x.l (D.l mp)else bif isDone 2 D' then jZ x.l jx else jZ rk jx) ?_;simp only[seval,p1,p2,p3,p10,s1,s2,fe,da,oZ,hzr,jY];rw[fL,HL];refine⟨rfl,SO _,abD,rfl,fe _,by rw[fe];exact SO _,jY _,by rw[wW _ rfl];rfl,?_⟩;refine oD ?_;simp only[seval,p1,p2,fe];rw[HL];refine ew (a:=[x.av,.agg (D.l mp),iv 0]) rfl ?_;exact ce this
namespace Tk
def dV (s:Nat)(more:Int)(i:Nat):List Int:=((SR i).filter s.testBit).map λn:Nat=>(n:Int)+more
theorem aca(s:Nat)(more:Int)(i:Nat):dV s more (i+1)=if s.testBit i then dV s more i++[(i:Int)+more]else dV s more i:=by
 unfold dV;rw[UZ,XI,To];by_cases h:s.testBit i=true
 ·simp[h]
 ·simp[h]
theorem N_(s:Nat)(more:Int)(i:Nat):(dV s more i).length<=i:=by
 unfold dV;rw[Ta];exact TL (Za _ _) (by simp)
end Tk
theorem z1:gD (SF .i64 0) 1=[iv 0]:=rfl
section
variable {lv:Bool}{H:List aa}{k kp:AV->List aa->Prop}
theorem KT{s:Nat}{more:Int}(hs:s<65536)(hm:0<=more/\more<=1000)(hk:k (aM (dV s more 16)) H):ba lv SA 56 H [wv s,iv more] k kp:=by
 refine bD (rs:=[.tmp 4]) (nt:=21) Tryz.f56 λhH hA=> ?_;simp only[bp,SU];refine aj ?_;refine aj ?_
 (repeat apply eT);refine nC (t:=5) (sz:=1) (el:=3) (by simp only[seval]<;>rfl) ?_
 refine aj ?_;refine bP ?_;refine ek 16 (λi:Nat=>[(5,.sl (dV s more i).length ((dV s more i).map iv) (.opn H.length)),(7,iv i)]) (λi=>H++[.tail (dV s more i).length 1 3]) (λ_=>True) (λ_ _=>rfl) (by simp only[seval];simp[bk,Wk.refl];exact Wk.refl _) rfl (λ_ _ _=>by simp) trivial (λbw bG i cw hi R hR=> ?_);refine aj ?_;refine aD ?_;refine⟨λh=> ?_,λh=> ?_⟩
 ·have hl:i<16:=by omega
  have fV:SD.wrap ((i:Int)+1)=((i+1:Nat):Int):=by rw[bc _ (by omega)];rfl
  have vg:SD.wrap ((i:Int)+more)=(i:Int)+more:=bc _ (by omega);have eY:=N_ s more i;refine aF ?_;refine aj ?_;refine aj ?_;refine aK ((yo hs ?_));(try simp only[seval]);refine aD ?_;refine⟨λhb=> ?_,λhb=> ?_⟩
  ·refine ab ?_;simp only[seval,z1,vg]
   first|refine⟨by decide,by omega,?_⟩|refine⟨by omega,?_⟩
   refine ab ?_;simp only[seval,fV];have cR:dV s more (i+1)=dV s more i++[(i:Int)+more]:=(by rw[aca,if_pos hb]);refine hR _ ⟨hl,trivial,?_⟩;rw[cR,To,SQ];exact bX
  ·refine aF ?_;refine ab ?_;simp only[seval,fV];have cR:dV s more (i+1)=dV s more i:=(by rw[aca,if_neg (by simpa using hb)]);refine hR _ ⟨hl,trivial,?_⟩;rw[cR];exact bX
 ·refine bO ?_;have:i=16:=by omega
  subst this;refine aj ?_;refine aX ?_;rw[aM]at hk;exact iH hH (eQ _ _ _) (by simp[p8,dZ]) hk
theorem aj1{x:ak}{n:Int}{ir:Nat}(hx:x.Ok)(hr:H[ir]?=some (.cells x.l 26))(hk:k (bv (decide (n<0)||decide (n>(x.pieces.length:Int)-1))) H):ba lv SA 82 H [iv n,.op ir 0] k kp:=by
 refine bD (rs:=[.tmp 3]) (nt:=10) Tryz.f82 λhH hA=> ?_;simp only[bp,SU];have bU:x.l=[iv x.first,iv x.hours,iv x.am,c_ x.seen,aN x.pieces,aN x.aC]:=rfl;have nY:=hx.ee;have hw:SD.wrap ((x.pieces.length:Int)-1)=(x.pieces.length:Int)-1:=bc _ (by omega);refine aj ?_;refine ab ?_;simp only[seval,hr,bU,aN,hw];refine aK ((tw ?_));(try simp only[seval]);refine aX ?_;exact ce hk
theorem ai8{ns:List Int}{f:AV}{e:End}(iz:ns.length<=4)(g:Int->Bool)(hf:∀n∈ns,∀(k kp:AV->List aa->Prop),k (bv (g n)) H->je lv SA f H [iv n] k kp)(hk:k (iv (match ns.findIdx? g with|some i=>(i:Int)|none=> -1)) H):ba lv SA 103 H [.sl ns.length (ns.map iv) e,f] k kp:=by
 refine bD (rs:=[.tmp 4]) (nt:=19) Tryz.f103 λhH hA=> ?_;simp only[bp,SU];refine aj ?_;refine aj ?_;refine bP ?_;refine qu ns.length (λi:Nat=>[(8,iv i)]) (λ_=>_) (λi=>∀n∈ns.take i,g n=false) (by simp) (λbw bG i cw hi R hR=> ?_);refine aj ?_;refine aD ?_;refine⟨λh=> ?_,λh=> ?_⟩
 ·have br:i<ns.length:=by omega
  obtain⟨n,hn⟩:=bE br;have fV:SD.wrap ((i:Int)+1)=((i+1:Nat):Int):=by rw[bc _ (by omega)];rfl
  refine aF ?_;refine aj ?_;refine ab ?_;simp only[seval,dN hn,iR br];refine ye (hf n (S6 hn) _ _ ?_);(try simp only[seval]);refine aD ?_;refine⟨λhg=> ?_,λhg=> ?_⟩
  ·refine aj ?_;refine aX ?_;have:ns.findIdx? g=some i:=by
    rw[XC];refine⟨br,?_,λj hj=> ?_⟩
    ·rw[SY br]at hn;cases hn;exact hg
    ·have:=hi ns[j] (by rw[List.mem_take_iff_getElem];exact⟨j,by omega,rfl⟩);simp[this]
   rw[this]at hk;exact ce hk
  ·refine aF ?_;refine ab ?_;simp only[seval,fV];refine hR _ ⟨br,λm hm=> ?_,bX⟩;rw[Uo,hn]at hm;rcases SV.1 hm with h'|h'
   ·exact hi m h'
   ·simp at h';rw[h'];simpa using hg
 ·have:i=ns.length:=by omega
  subst this;rw[Tn]at hi;refine bO ?_;refine aj ?_;refine aX ?_;have:ns.findIdx? g=none:=by rw[Ym];exactλn hn=>hi n hn
  rw[this]at hk;exact ce hk
theorem aj0{ns:List Int}{f:AV}{e:End}(iz:ns.length<=4)(g:Int->Bool)(hf:∀n∈ns,∀(k kp:AV->List aa->Prop),k (bv (g n)) H->je lv SA f H [iv n] k kp)(hk:k (bv (ns.any g)) H):ba lv SA 81 H [.sl ns.length (ns.map iv) e,f] k kp:=by
 refine bD (rs:=[.tmp 4]) (nt:=9) Tryz.f81 λhH hA=> ?_;simp only[bp,SU];refine aj ?_;refine aj ?_;refine aK ((ai8 iz g hf ?_));(try simp only[seval]);refine aX ?_;refine ce ?_;have:decide ((match ns.findIdx? g with|some i=>(i:Int)|none=> -1)>=0)=ns.any g:=by
  cases h:ns.findIdx? g with
  |none=>
   rw[Ym]at h;have:ns.any g=false:=by
    rw[List.any_eq_false];exactλn hn=>by simp[h n hn]
   rw[this];rfl
  |some i=>
   rw[XC]at h;obtain⟨h1,h2,_⟩:=h;have:ns.any g=true:=UO.2 ⟨ns[i],Ww h1,h2⟩;rw[this];simp
 rw[this];exact hk
def zH (x:ak)(ns:List Int):Bool:= !(ns.any λn=>decide (n<0)||decide (n>(x.pieces.length:Int)-1))
theorem KY{x:ak}{ns:List Int}{e:End}{il ir:Nat}(hx:x.Ok)(iz:ns.length<=4)(hl:H[il]?=some (.cells [.sl ns.length (ns.map iv) e] 22))(hr:H[ir]?=some (.cells x.l 26))(hk:k (bv (zH x ns)) H):ba lv SA 80 H [.op il 0,.op ir 0] k kp:=by
 refine bD (rs:=[.tmp 2]) (nt:=7) Tryz.f80 λhH hA=> ?_;simp only[bp,SU];refine aj ?_;refine ab ?_;simp only[seval,hl,Uf,UH,Um,T1];refine aK ((aj0 (ns:=ns) iz (λn=>decide (n<0)||decide (n>(x.pieces.length:Int)-1)) (λn hn k kp hk=> ?_) ?_))
 ·exact dc (aj1 hx hr hk)
 (try simp only[seval]);refine aX ?_;exact ce hk
theorem KU{x:ak}{ns:List Int}{e:End}(hk:k (.fn (.func 80) [] [.op (H.length+1) 0,.op H.length 0]) (H++[.cells x.l 26,.cells [.sl ns.length (ns.map iv) e] 22])):ba lv SA 58 H [x.av,.sl ns.length (ns.map iv) e] k kp:=by
 refine bD (rs:=[.tmp 4]) (nt:=6) Tryz.f58 λhH hA=> ?_;simp only[bp,SU,ak.av];refine aj ?_;refine ab ?_;simp only[seval,Uf,UH,Um,T1];refine aX ?_;exact ce hk
end
open Go.Conc Go.Proofs Go.Gg.Tk
structure bh where
 az:List Int
 g:Int
 s:Int
def B9 (τ:bh):aa:=.cells [aM τ.az,.val (.int .i64 τ.g),.val (.int .u64 τ.s)] 73
def Jt (a b:Int):Int:=TD.wrap (Ul TD.bits a^^^Ul TD.bits b).toNat
def aeX (g:Int):Int:=TD.wrap (TD.wrap (TD.wrap g* 15074714826142052245)+11400714819323198485)
def PL (τ:bh):Int:=match τ.az[τ.g.toNat]?with
 |some x=>Jt (aeX τ.g) (TD.wrap (TD.wrap x* 12620523164723586485))
 |none=>aeX τ.g
def aoX (s w:Int):Int:=TD.wrap (TD.wrap (s+w)* 13787848793156543929)
def aoY (s:Int):Int:=Jt s (s.fdiv (2^min 31 TD.bits))
def IG (s:Int):Int:=(Jt s (s.fdiv (2^min 27 TD.bits))).fdiv (2^min 9 TD.bits)
def tick (τ:bh):bh:=⟨τ.az,τ.g+1,aoY (aoX τ.s (PL τ))⟩
def xx (τ:bh):Int:=IG (TD.wrap ((tick τ).s* 10723151780598845931))
theorem aeP(n:Int)(h0:0<=n)(h:n<2^64):TD.wrap n=n:=by
 have h1:TD.bits=64:=rfl;have h2:TD.signed=false:=rfl;unfold Xk;rw[h1,h2];simp;omega
theorem atO(n:Int):0<=TD.wrap n/\TD.wrap n<2^64:=by
 have h1:TD.bits=64:=rfl;have h2:TD.signed=false:=rfl;unfold Xk;rw[h1,h2];simp;omega
theorem acW(s:Int):0<=IG s/\IG s<2^55:=by
 unfold IG Jt;have h:=atO (Ul TD.bits s^^^Ul TD.bits (s.fdiv (2^min 27 TD.bits))).toNat;have e:(2:Int)^min 9 TD.bits=512:=by decide
 rw[e,Int.fdiv_eq_ediv_of_nonneg _ (show (0:Int)<=512 by decide)];omega
def dh (τ:bh)(n:Int):Int:=if n<1 then 0 else(xx τ).tmod (n+1)
theorem lJ(τ:bh)(n:Int):0<=dh τ n/\(dh τ n<=n\/dh τ n=0):=by
 unfold dh;split
 ·omega
 ·have h:=(acW (TD.wrap ((tick τ).s* 10723151780598845931))).1;have h1:=Int.tmod_nonneg (n+1) h;have h2:=Int.tmod_lt_of_pos (xx τ) (show 0<n+1 by omega);unfold xx at h2⊢;omega
def Cd (τ:bh)(lo hi:Int):Int:=lo+dh τ (hi-lo)
theorem aeV(τ:bh){lo hi:Int}(h:lo<=hi):lo<=Cd τ lo hi/\Cd τ lo hi<=hi:=by
 have:=lJ τ (hi-lo);unfold Cd;omega
def aq6 (τ:bh)(n:Int):Bool:=dh τ (n-1)==0
structure dM (Gf:bh->List aa)(t N:Nat):Prop where
 len:∀τ,(Gf τ).length=N
 get:∀τ,(Gf τ)[t]?=some (B9 τ)
 set:∀τ τ',(Gf τ).set t (B9 τ')=Gf τ'
 ok:∀m τ τ',(∀z∈Gf τ,eZ m z)->∀z∈Gf τ',eZ m z
theorem dM.more{Gf:bh->List aa}{t N:Nat}(h:dM Gf t N)(L:List aa):dM (λτ=>Gf τ++L) t (N+L.length)where
 len:=λτ=>by simp[h.len]
 get:=λτ=>fU (h.get τ)
 set:=λτ τ'=>by show (Gf τ++L).set t _=_;rw[U1 _ _ (eW (h.get τ)),h.set]
 ok:=λm τ τ' hk z hz=>(SV.1 hz).elim (λhz=>h.ok m τ τ' (λv hv=>hk v (Ti _ hv)) z hz) (λhz=>hk z (S5 _ hz))
theorem dM.aq{Gf:bh->List aa}{t N:Nat}(h:dM Gf t N){τ:bh}(hH:bJ (Gf τ))(τ':bh):bJ (Gf τ'):=λz hz=>by
 have:=h.ok N τ τ' (λw hw=>by have:=hH w hw;rwa [h.len]at this) z hz;rwa [h.len]
section
variable {Gf:bh->List aa}{t N:Nat}(h:dM Gf t N)
include h
theorem dM.g0(τ:bh)(L:List aa):(Gf τ++L)[N]?=L[0]?:=by have:=ws (Gf τ) L 0;rwa [h.len]at this
theorem dM.g1(τ:bh)(L:List aa):(Gf τ++L)[N+1]?=L[1]?:=by have:=ws (Gf τ) L 1;rwa [h.len]at this
theorem dM.g2(τ:bh)(L:List aa):(Gf τ++L)[N+1+1]?=L[2]?:=by have:=ws (Gf τ) L 2;rwa [h.len]at this
theorem dM.g3(τ:bh)(L:List aa):(Gf τ++L)[N+1+1+1]?=L[3]?:=by have:=ws (Gf τ) L 3;rwa [h.len]at this
theorem dM.h2(τ:bh)(L:List aa):(Gf τ++L)[N+2]?=L[2]?:=h.g2 τ L
theorem dM.h3(τ:bh)(L:List aa):(Gf τ++L)[N+3]?=L[3]?:=h.g3 τ L
theorem dM.s0(τ:bh)(L:List aa)(x:aa):(Gf τ++L).set N x=Gf τ++L.set 0 x:=by have:=wu (Gf τ) L 0 x;rwa [h.len]at this
theorem dM.s1(τ:bh)(L:List aa)(x:aa):(Gf τ++L).set (N+1) x=Gf τ++L.set 1 x:=by have:=wu (Gf τ) L 1 x;rwa [h.len]at this
theorem dM.s2(τ:bh)(L:List aa)(x:aa):(Gf τ++L).set (N+1+1) x=Gf τ++L.set 2 x:=by have:=wu (Gf τ) L 2 x;rwa [h.len]at this
theorem dM.s3(τ:bh)(L:List aa)(x:aa):(Gf τ++L).set (N+1+1+1) x=Gf τ++L.set 3 x:=by have:=wu (Gf τ) L 3 x;rwa [h.len]at this
theorem dM.t2(τ:bh)(L:List aa)(x:aa):(Gf τ++L).set (N+2) x=Gf τ++L.set 2 x:=h.s2 τ L x
theorem dM.t3(τ:bh)(L:List aa)(x:aa):(Gf τ++L).set (N+3) x=Gf τ++L.set 3 x:=h.s3 τ L x
end
theorem apx(m:Nat)(τ:bh):eZ m (B9 τ):=by
 intro a ha;simp only[SK,SZ,or_false]at ha;rcases ha with rfl|rfl|rfl
 ·rw[zu];trivial
 ·exact .val _
 ·exact .val _
theorem aty(H:List aa):dM (λτ=>H++[B9 τ]) H.length (H.length+1)where
 len:=λτ=>by simp
 get:=λτ=>by simp
 set:=λτ τ'=>by simp
 ok:=λm τ τ' hk z hz=>by
  rcases SV.1 hz with hz|hz
  ·exact hk z (Ti _ hz)
  ·rw[S9.1 hz];exact apx _ _
structure bh.Ok (τ:bh)(b:Int):Prop where
 g0:0<=τ.g
 g:τ.g<=b
 len:τ.az.length<=2^50
section
variable {lv:Bool}{H:List aa}{k kp:AV->List aa->Prop}{Gf:bh->List aa}{t N:Nat}{τ:bh}{b:Int}
theorem ajo{az:List Int}(hk:k (.op H.length 0) (H++[B9 ⟨az,0,7640891576956012809⟩])):ba lv SA 16 H [aM az] k kp:=by
 refine bD (rs:=[.tmp 2]) (nt:=6) Tryz.f16 λhH hA=> ?_;simp only[bp,SU];refine aj ?_;refine aj ?_;refine aX ?_;exact ce hk
theorem bh.Ok.tick(h:τ.Ok b):(tick τ).Ok (b+1):=⟨by have:=h.g0;show 0<=τ.g+1;omega,by have:=h.g;show τ.g+1<=b+1;omega,h.len⟩
theorem bh.Ok.mono{b':Int}(h:τ.Ok b)(hb:b<=b'):τ.Ok b':=⟨h.g0,by have:=h.g;omega,h.len⟩
theorem ajO(hT:dM Gf t N)(hτ:τ.Ok b)(hb:b<2^60)(hk:k (.val (.int .u64 (xx τ))) (Gf (tick τ))):ba lv SA 55 (Gf τ) [.op t 0] k kp:=by
 obtain⟨az,g,s⟩:=τ;obtain⟨lR,hgb,hln⟩:=hτ;simp only at lR hgb hln;refine bD (rs:=[.tmp 2]) (nt:=76) Tryz.f55 λhH hA=> ?_;simp only[bp,SU];have hg:∀τ,(Gf τ)[t]?=some (.cells [.sl τ.az.length (τ.az.map iv) .shut,.val (.int .i64 τ.g),.val (.int .u64 τ.s)] 73):=hT.get;have hs:∀τ (EU:List Int) g' s',(Gf τ).set t (.cells [.sl EU.length (EU.map iv) .shut,.val (.int .i64 g'),.val (.int .u64 s')] 73)=Gf ⟨EU,g',s'⟩:=λτ EU g' s'=>hT.set τ ⟨EU,g',s'⟩;obtain⟨n,rfl⟩:∃n:Nat,g=n:=⟨g.toNat,by omega⟩;have hw:SD.wrap ((n:Int)+1)=n+1:=bc _ (by omega);refine aj ?_;refine ab ?_;simp only[seval,hg];refine ej 9 ?_;simp only[seval,hg];refine aD ?_;refine⟨λh=> ?_,λh=> ?_⟩
 ·have jJ:n<az.length:=by simpa using h
  obtain⟨x,hx⟩:=bE jJ;refine ej 13 ?_;simp only[seval,hg,dN hx,iR jJ,CL];refine ab ?_;simp only[seval,hg,hw,hs];refine ab ?_;simp only[seval,hg,hs];refine ej 11 ?_;simp only[seval,hg,hs,CK,CL];refine ab ?_;simp only[seval,hg];refine ab ?_;simp only[seval,CK,CL];refine aX ?_;refine ce ?_;unfold xx tick PL at hk;simp only[VK,hx]at hk;exact hk
 ·have jJ:¬n<az.length:=by simpa using h
  have hx:az[n]?=none:=by rw[Ux];omega
  refine aF ?_;refine ab ?_;simp only[seval,hg,hw,hs];refine ab ?_;simp only[seval,hg,hs];refine ej 11 ?_;simp only[seval,hg,hs,CK,CL];refine ab ?_;simp only[seval,hg];refine ab ?_;simp only[seval,CK,CL];refine aX ?_;refine ce ?_;unfold xx tick PL at hk;simp only[VK,hx]at hk;exact hk
theorem pC{n:Int}(hT:dM Gf t N)(hτ:τ.Ok b)(hb:b<2^60)(hn:n<2^60)(hk:k (iv (dh τ n)) (Gf (tick τ))):ba lv SA 25 (Gf τ) [.op t 0,iv n] k kp:=by
 refine bD (rs:=[.tmp 4]) (nt:=16) Tryz.f25 λhH hA=> ?_;simp only[bp,SU];refine aj ?_;refine aj ?_;refine aK ((ajO hT hτ hb ?_));(try simp only[seval]);refine aj ?_;refine aD ?_;refine⟨λh=> ?_,λh=> ?_⟩
 ·have h:n<1:=by simpa using h
  refine aj ?_;refine aX ?_;rw[dh,if_pos h]at hk;exact ce hk
 ·have h:¬n<1:=by simpa using h
  have ho:=acW (TD.wrap ((tick τ).s* 10723151780598845931));have bH:TD.wrap n=n:=aeP n (by omega) (by omega);have ep:TD.wrap (n+1)=n+1:=aeP _ (by omega) (by omega);have oW:n+1≠0:=by omega
  have hr:=lJ τ n;rw[dh,if_neg h]at hk hr;have j4:SD.wrap ((xx τ).tmod (n+1))=(xx τ).tmod (n+1):=bc _ (by omega);refine aF ?_;refine ab ?_;simp only[seval,afZ,bH,ep,j4,oW];refine aX ?_;exact ce hk
theorem R7{lo hi:Int}(hT:dM Gf t N)(hτ:τ.Ok b)(hb:b<2^60)(pM:0<=lo/\lo<2^20)(G_: -1<=hi/\hi<2^20)(hk:k (iv (Cd τ lo hi)) (Gf (tick τ))):ba lv SA 23 (Gf τ) [.op t 0,iv lo,iv hi] k kp:=by
 refine bD (rs:=[.tmp 6]) (nt:=14) Tryz.f23 λhH hA=> ?_;simp only[bp,SU];have bH:SD.wrap (hi-lo)=hi-lo:=bc _ (by omega);have hr:=lJ τ (hi-lo);have ep:SD.wrap (lo+dh τ (hi-lo))=lo+dh τ (hi-lo):=bc _ (by omega);refine aj ?_;refine ab ?_;simp only[seval,bH];refine aK ((pC hT hτ hb (by omega) ?_));(try simp only[seval,ep]);refine aX ?_;exact ce hk
theorem Gt{n:Int}(hT:dM Gf t N)(hτ:τ.Ok b)(hb:b<2^60)(hn:0<=n/\n<2^20)(hk:k (bv (aq6 τ n)) (Gf (tick τ))):ba lv SA 46 (Gf τ) [.op t 0,iv n] k kp:=by
 refine bD (rs:=[.tmp 4]) (nt:=10) Tryz.f46 λhH hA=> ?_;simp only[bp,SU];have bH:SD.wrap (n-1)=n-1:=bc _ (by omega);refine aj ?_;refine ab ?_;simp only[seval,bH];refine aK ((pC hT hτ hb (by omega) ?_));(try simp only[seval]);refine aX ?_;exact ce hk
end
theorem sx{α:Type}{xs:List α}{i:Nat}{x:α}(h:xs[i]?=some x):x∈xs:=S6 h
def rI (xs:List Int)(n:Int):Int:=if n∈xs then(xs.idxOf n:Int)else -1
theorem abF{n:Int}:∀{xs:List Int}{i:Nat},xs[i]?=some n->n∉xs.take i->xs.idxOf n=i
 |[],i,h,_=>by cases h
 |x::xs,0,h,_=>by cases h;simp
 |x::xs,i+1,h,hn=>by
  rw[VZ,SK,not_or]at hn;have e:(x==n)=false:=beq_eq_false_iff_ne.2 λe=>hn.1 e.symm;rw[List.idxOf_cons,e,cond_false,abF (by simpa using h) hn.2]
theorem agI{xs:List Int}{n:Int}{i:Nat}(h:xs[i]?=some n)(hn:n∉xs.take i):rI xs n=i:=by
 rw[rI,if_pos (sx h),abF h hn]
theorem F9(xs:List Int)(n:Int):(0<=rI xs n<->n∈xs)/\(∀i:Nat,rI xs n=i->xs[i]?=some n)/\ -1<=rI xs n:=by
 unfold rI;split
 ·rename_i h;refine⟨⟨λ_=>h,λ_=>by omega⟩,λi hi=> ?_,by omega⟩;obtain rfl:xs.idxOf n=i:=by omega
  have hlt:=List.idxOf_lt_length_of_mem h;rw[SY hlt,List.getElem_idxOf hlt]
 ·rename_i h;exact⟨⟨λe=>by omega,λe=>absurd e h⟩,λi hi=>by omega,by omega⟩
section
variable {lv:Bool}{H:List aa}{k kp:AV->List aa->Prop}
theorem R8{xs:List Int}{n:Int}{e:End}(hl:xs.length<2^30)(hk:k (iv (rI xs n)) H):ba lv SA 27 H [.sl xs.length (xs.map iv) e,iv n] k kp:=by
 refine bD (rs:=[.tmp 4]) (nt:=19) Tryz.f27 λhH hA=> ?_;simp only[bp,SU];refine aj ?_;refine aj ?_;refine bP ?_;refine qu xs.length (λi:Nat=>[(5,iv i)]) (λ_=>_) (λi=>n∉xs.take i) (by simp) (λbw bG i cw hi R hR=> ?_);clear bw bG;refine aj ?_;refine aD ?_;refine⟨λh=> ?_,λh=> ?_⟩
 ·have br:i<xs.length:=by omega
  obtain⟨y,hy⟩:=bE br;have bH:SD.wrap ((i:Int)+1)=i+1:=bc _ (by omega);refine aF ?_;refine ab ?_;simp only[seval,dN hy,iR br];refine aD ?_;refine⟨λh2=> ?_,λh2=> ?_⟩
  ·have h2:y=n:=(by simpa using h2);subst h2;refine aj ?_;refine aX ?_;rw[agI hy hi]at hk;exact ce hk
  ·have h2:¬y=n:=(by simpa using h2);refine aF ?_;refine ab ?_;simp only[seval,bH];refine hR _ ⟨br,λhm=> ?_,bX⟩;obtain⟨hj,hle⟩:=SL.1 hy;rw[U2 hj,hle]at hm;rcases SV.1 hm with hm|hm
   ·exact hi hm
   ·exact h2 (S9.1 hm).symm
 ·have iw:i=xs.length:=by omega
  subst iw;rw[Tn]at hi;refine bO ?_;refine aj ?_;refine aX ?_;rw[rI,if_neg hi]at hk;exact ce hk
theorem ajy{xs:List Int}{n:Int}{e:End}(hl:xs.length<2^30)(hk:∀v:Int,(0<=v<->n∈xs)->(∀i:Nat,v=i->xs[i]?=some n)-> -1<=v->k (iv v) H):ba lv SA 27 H [.sl xs.length (xs.map iv) e,iv n] k kp:=R8 hl (hk _ (F9 xs n).1 (F9 xs n).2.1 (F9 xs n).2.2)
inductive rF:List AV->List AV->Prop
 |nil:rF [] []
 |cons {a b:AV} {l m:List AV} (h:Wk a b) (t:rF l m):rF (a::l) (b::m)
theorem rF.len{l m:List AV}(h:rF l m):l.length=m.length:=by
 induction h with
 |nil=>rfl
 |cons _ _ ih=>simp[ih]
theorem rF.at{l m:List AV}(h:rF l m):∀(i:Nat)(a b:AV),m[i]?=some a->l[i]?=some b->Wk b a:=by
 induction h with
 |nil=>intro i a b h;simp at h
 |cons h _ ih=>
  intro i a b h1 h2
  match i with
  |0=>cases h1;cases h2;exact h
  |i+1=>exact ih i a b h1 h2
theorem Jg{l l':List AV}(h:rF l l'):Wk (.agg l) (.agg l'):=λE v hd=>by
 cases hd with
 |agg hs h1=>
  refine .agg (by rw[hs,h.len]) λi x hx=> ?_;obtain⟨y,hy⟩:=bE (xs:=l) (i:=i) (by rw[h.len];exact eW hx);exact h.at i x y hx hy E _ (h1 i y hy)
theorem zX{n:Nat}{l l':List AV}{e:End}(hl:l.length=l'.length)(h:∀(i:Nat) a b,l'[i]?=some a->l[i]?=some b->Wk b a):Wk (.sl n l e) (.sl n l' e):=λE v hd=>by
 cases hd with
 |sl b o cap f hc he h1 h2=>
  refine .sl b o cap f hc he (λi hi=>h1 i (by omega)) λi x hx=> ?_;obtain⟨y,hy⟩:=bE (xs:=l) (i:=i) (by have:=eW hx;omega);exact h i x y hx hy E _ (h2 i y hy)
 |nil he=>
  have:l'=[]:=UI hl.symm;subst this;exact .nil he
theorem at4{a b c:AV}(h:Wk a b)(k:Wk b c):Wk a c:=λE v hd=>k E v (h E v hd)
theorem PK{n:Nat}{l l':List AV}{e:End}(h:rF l l'):Wk (.sl n l e) (.sl n l' .shut):=at4 (zX h.len h.at) (eQ _ _ _)
theorem xz:(1<=2^24)=True:=by simp
theorem D8{H L:List aa}(h:bJ H)(hL:∀z∈L,∀n,eZ n z):bJ (H++L):=λz hz=>by
 rcases SV.1 hz with h'|h'
 ·exact(h z h').mono (by simp)
 ·exact hL z h' _
theorem uq{base Vi Vn T:List (Nat×AV)}{H H':List aa}(G:List aa)(hk:sX T (Vi++base) Vn)(hv:∀p∈Vn,∃b,look T p.1=some b/\Wk b p.2)(aq:bJ H)(hlt:∀p∈Vn,Lt H.length p.2)(hG:H'=H++G):rD base Vi Vn H ⟨T,H'⟩:=⟨hk,hv,G,hG,.inr ⟨aq,hlt⟩⟩
theorem ati{xs ys:List Int}{i:Nat}{x y:Int}(hx:xs[i]?=some x)(hy:ys[i]?=some y)(h:xs.take i=ys.take i)(e:x=y):xs.take (i+1)=ys.take (i+1):=by
 obtain⟨hj,rfl⟩:=SL.1 hx;obtain⟨hk,rfl⟩:=SL.1 hy;rw[U2 hj,U2 hk,h,e]
theorem ahX{xs:List Int}{i:Nat}{x n:Int}(h:xs[i]?=some x):(xs.take (i+1)).contains n=((xs.take i).contains n||n==x):=by
 obtain⟨hj,rfl⟩:=SL.1 h;rw[U2 hj,Yx,Yx,Z2];simp
theorem AG{xs ys:List Int}{e e':End}(hx:xs.length<2^60)(hk:k (bv (decide (xs=ys))) H):ba lv SA 20 H [.sl xs.length (xs.map iv) e,.sl ys.length (ys.map iv) e'] k kp:=by
 refine bD (rs:=[.tmp 4]) (nt:=26) Tryz.f20 λhH hA=> ?_;simp only[bp,SU];refine aj ?_;refine aj ?_;refine aD ?_;refine⟨λh=> ?_,λh=> ?_⟩
 ·have h:xs≠ys:=λe=>by subst e;simp at h
  refine aj ?_;refine aX ?_;rw[decide_eq_false h]at hk;exact ce hk
 ·have h:xs.length=ys.length:=by
   have h:(xs.length:Int)=ys.length:=(by simpa using h);omega
  refine aF ?_;refine aj ?_;refine bP ?_;refine qu xs.length (λi:Nat=>[(5,iv i)]) (λ_=>_) (λi=>xs.take i=ys.take i) (by simp) (λbw bG i cw hi R hR=> ?_);refine aj ?_;refine aD ?_;refine⟨λh2=> ?_,λh2=> ?_⟩
  ·have hlt:i<xs.length:=(by omega);obtain⟨x,vE⟩:=bE hlt;obtain⟨y,vF⟩:=bE (xs:=ys) (i:=i) (by omega);refine aF ?_;refine bP ?_;refine ej 8 ?_;simp only[seval,dN vE,dN vF,iR hlt,iR (eW vF)];refine aD ?_;refine⟨λh3=> ?_,λh3=> ?_⟩
   ·have h3:xs≠ys:=λe=>(by subst e;rw[vE]at vF;cases vF;simp at h3);refine aj ?_;refine aX ?_;rw[decide_eq_false h3]at hk;exact ce hk
   ·have h3:x=y:=(by simpa using h3);refine aF ?_;refine aj ?_;refine hR _ ⟨hlt,ati vE vF hi h3,?_⟩;rw[bc _ (by omega)];exact bX
  ·have iw:i=xs.length:=(by omega);refine bO ?_;refine aj ?_;refine aX ?_;have h3:xs=ys:=by
    rw[iw,Tn]at hi;rw[hi,h,Tn]
   rw[decide_eq_true h3]at hk;exact ce hk
theorem ajR{xs:List Int}{n:Int}{e:End}(hx:xs.length<2^60)(hk:k (bv (xs.contains n)) H):ba lv SA 61 H [.sl xs.length (xs.map iv) e,iv n] k kp:=by
 refine bD (rs:=[.tmp 4]) (nt:=18) Tryz.f61 λhH hA=> ?_;simp only[bp,SU];refine aj ?_;refine aj ?_;refine bP ?_;refine qu xs.length (λi:Nat=>[(5,iv i)]) (λ_=>_) (λi=>(xs.take i).contains n=false) (by simp) (λbw bG i cw hi R hR=> ?_);refine aj ?_;refine aD ?_;refine⟨λh2=> ?_,λh2=> ?_⟩
 ·have hlt:i<xs.length:=by omega
  obtain⟨x,vE⟩:=bE hlt;have hct:=ahX (n:=n) vE;refine aF ?_;refine ab ?_;simp only[seval,dN vE,iR hlt];refine aD ?_;refine⟨λh3=> ?_,λh3=> ?_⟩
  ·have h3:x=n:=(by simpa using h3);refine aj ?_;refine aX ?_;have:xs.contains n=true:=(by rw[Zc];rw[<- h3];exact sx vE);rw[this]at hk;exact ce hk
  ·have h3:¬x=n:=(by simpa using h3);refine aF ?_;refine aj ?_;refine hR _ ⟨hlt,by rw[hct,hi];simp;omega,?_⟩;rw[bc _ (by omega)];exact bX
 ·have iw:i=xs.length:=by omega
  subst iw;rw[Tn]at hi;rw[hi]at hk;refine bO ?_;refine aj ?_;refine aX ?_;exact ce hk
end
def fQ (x:ak)(deep:Int)(D:Kn):Prop:=∃(p:Nat)(js:List Nat),x.am=p/\js.Perm (SR (p+1))/\ox x deep js D/\bR D
theorem vZ(x:ak):∀a∈x.l,a.leaf=true:=λa ha=>by
 simp only[ak.l,SK,SZ,or_false]at ha;rcases ha with rfl|rfl|rfl|rfl|rfl|rfl<;>rfl
section
variable {H:List aa}{k kp:AV->List aa->Prop}
theorem JW{lv:Bool}:P2 lv H (.fn (.func 52) [] []) true:=λL k kp hk=>dc (ajL hk)
theorem ajt{x:ak}(hx:x.Ok)(hm:H[0]?=some .main)(hk:∀D,fQ x 0 D->k (.aQ [iv (if D.has then(D.aL.length:Int)else 0),iv 0]) H):ba true SA 21 H [x.av] k kp:=by
 refine bD (rs:=[.tmp 2,.tmp 3]) (nt:=19) Tryz.f21 λhH hA=> ?_;simp only[bp,SU,ak.av];have hp:=hx.am;obtain⟨p,iA⟩:∃p:Nat,x.am=p:=⟨x.am.toNat,by omega⟩;have bU:x.l=[iv x.first,iv x.hours,iv x.am,c_ x.seen,aN x.pieces,aN x.aC]:=rfl;have bi:∀(L:List aa),(H++L)[H.length]?=L[0]?:=λL=>aZ H L 0;have da:x.l.length=6:=rfl;have fL:Uh 6 x.l=x.l:=rfl;refine aj ?_;refine ab ?_;simp only[seval,bi,da,fL];refine aK ((AH (x:=x) hx iA (fU hm) JW (λh=>by cases h) λ_ js D L mp iJ jH eo tU hg=> ?_));have oJ:fQ x 0 D:=⟨p,js,iA,iJ,jH,eo⟩;have fe:=Kn.len eo mp;have jY:=vN D mp;obtain⟨B,hB⟩:∃B,B=H++[aa.cells x.l 26]++L:=⟨_,rfl⟩;rw[<- hB]at hg⊢;(try simp only[seval,ak.av,da,fe]);refine⟨vZ x,jY,?_⟩;have fI:∀(L':List aa)(n:Int),k (.aQ [iv n,iv 0]) H->cH H.length (B++L') (.aQ [iv n,iv 0]) k:=λL' n h=>by
  rw[hB,SC,SC];exact iH hH (Wk.refl _) (by simp[jM,dZ]) h
 have oO:∀(L':List aa),(B++L')[B.length+1]?=L'[1]?:=λL'=>aZ B L' 1;have qH:∀(L':List aa),(B++L')[mp]?=some (.obj (.map (D.aL.zipIdx.map eG).toArray D.aL.length)):=λL'=>fU hg;have cQ:(D.l mp).drop 1=.mp mp::((D.l mp).drop 2):=rfl;have aJ:=hk D oJ;cases hh:D.has with
 |false=>
  have hE:fl D=11:=by rw[fl,hh];rfl
  rw[hh]at aJ;refine ab ?_;simp only[seval,hE,show ((11:Int)==11)=true from rfl];refine aD ?_;refine aj ?_;refine aX ?_;exact fI _ 0 aJ
 |true=>
  have hE:fl D=0:=by rw[fl,hh];rfl
  rw[hh]at aJ;refine ab ?_;simp only[seval,hE,show ((0:Int)==11)=false from rfl];refine aD ?_;refine aF ?_;refine ab ?_;simp only[seval,oO,cQ,qH];have aY:(D.aL.zipIdx.map eG).toArray.size=D.aL.length:=by simp
  rw[afx _ _ _ _ _ F.P4 (qH _),aY];refine aX ?_;exact fI _ _ aJ
end
namespace Tk
def vM (some other:Bool):Int:=if some&&other then 3 else if some then 1 else 2
end Tk
open Go.Conc Go.Proofs Go.Gg.Tk
section
variable {lv:Bool}{H:List aa}{k kp:AV->List aa->Prop}
theorem ajQ{D:Kn}{mp s q:Nat}(hD:bR D)(hs:s<3)(hq:q<4)(hk:k (iv (vM ((D.aW.getD s 0).testBit q) (D.aW.getD s 0!=2^q))) H):ba lv SA 60 H [.agg (D.l mp),.cZ 97 (.agg [iv s,iv q])] k kp:=by
 refine bD (rs:=[.tmp 4]) (nt:=65) Tryz.f60 λhH hA=> ?_;simp only[bp,SU];have fe:=Kn.len hD mp;obtain⟨u,hu⟩:=bE (xs:=D.aW) (i:=s) (by rw[hD.aW];exact hs);have l5:D.aW.getD s 0=u:=by rw[SE,hu];rfl
 rw[l5]at hk;have lu:=hD.l_ _ (S6 hu);have b3:(0<=(s:Int)/\(s:Int)<3)=True:=by simp;omega
 have bi:∀(L:List aa),(H++L)[H.length]?=L[0]?:=λL=>aZ H L 0;have cQ:∀(L:List aa),(H++L)[H.length+1]?=L[1]?:=λL=>aZ H L 1;have DK:=Kn.Fa hD (mp:=mp) hu;refine aj ?_;refine aj ?_;refine aj ?_;refine ab ?_;simp only[seval,F.ano];refine aD ?_;refine ab ?_;simp only[seval,F.abK];refine aD ?_;refine aj ?_;refine ej 18 ?_;simp only[seval,bi,cQ,b3,DK];refine gB (bv (u.testBit q)) (dc (yo lu ⟨rfl,rfl⟩)) ?_;refine gB (wv (2^q)) (dc (uU (m:=0) (by decide) (show q<16 by omega) ⟨by rw[Nat.zero_or],rfl⟩)) ?_;have aH:((u:Int)!=((2^q:Nat):Int))=(u !=2^q):=by
  rw[U9,bne_iff_ne,bne_iff_ne];exact not_congr Int.ofNat_inj
 rw[show wv u=AV.val (.int .u16 (u:Int))from rfl,show wv (2^q)=AV.val (.int .u16 ((2^q:Nat):Int))from rfl,Qc,aH];have fin:∀(L:List aa)(n:Int),vM (u.testBit q) (u !=2^q)=n->cH H.length (H++L) (iv n) k:=λL n h=>by rw[h]at hk;exact ji hH hk
 generalize u.testBit q=s1 at fin⊢;generalize(u !=2^q)=s2 at fin⊢;cases s1<;>cases s2
 all_goals
  refine aj ?_;refine bP ?_;refine bP ?_;refine bP ?_;refine aj ?_;refine aD ?_
 ·refine aF ?_;refine aj ?_;refine aD ?_;refine bO ?_;refine aj ?_;refine aj ?_;refine bO ?_;refine aj ?_;refine aX ?_;exact fin _ 2 rfl
 ·refine aF ?_;refine aj ?_;refine aD ?_;refine bO ?_;refine aj ?_;refine aj ?_;refine bO ?_;refine aj ?_;refine aX ?_;exact fin _ 2 rfl
 ·refine aF ?_;refine aj ?_;refine aD ?_;refine aF ?_;refine bO ?_;refine aj ?_;refine bO ?_;refine aj ?_;refine aX ?_;exact fin _ 1 rfl
 ·refine bO ?_;refine aj ?_;refine aj ?_;refine aj ?_;refine bO ?_;refine aj ?_;refine aX ?_;exact fin _ 3 rfl
theorem aqb{x:ak}{q:Nat}(hq:q<x.pieces.length):zH x [(q:Int)]=true:=by
 unfold zH;simp;omega
theorem ajP{x:ak}{s q ir ip is:Nat}(hx:x.Ok)(hs:s<x.aC.length)(hq:q<x.pieces.length)(hr:H[ir]?=some (.cells x.l 26))(h1:H[ip]?=some (.cells [iv q] 3))(h2:H[is]?=some (.cells [iv s] 3))(hk:k (bv true) H):ba lv SA 57 H [.op ir 0,.op ip 0,.op is 0] k kp:=by
 refine bD (rs:=[.tmp 3]) (nt:=18) Tryz.f57 λhH hA=> ?_;simp only[bp,SU];have bU:x.l=[iv x.first,iv x.hours,iv x.am,c_ x.seen,aN x.pieces,aN x.aC]:=rfl;have da:x.l.length=6:=rfl;have fL:Uh 6 x.l=x.l:=rfl;have aP:=hx.db;have bi:∀(L:List aa),(H++L)[H.length]?=L[0]?:=λL=>aZ H L 0;have cQ:∀(L:List aa),(H++L)[H.length+1]?=L[1]?:=λL=>aZ H L 1;have aq:=aqb hq;have hw:SD.wrap ((x.aC.length:Int)-1)=(x.aC.length:Int)-1:=bc _ (by omega);have cw:(decide ((s:Int)<0)||decide ((s:Int)>(x.aC.length:Int)-1))=false:=by simp;omega
 refine aj ?_;refine ab ?_;simp only[seval,z1,hr,h1,da,fL];(try refine⟨by decide,?_⟩);refine aK ((KU (x:=x) (ns:=[(q:Int)]) (e:=.exact) ?_));(try simp only[seval]);refine aK ((KY (x:=x) (ns:=[(q:Int)]) (e:=.exact) hx (by simp) (by rw[cQ];rfl) (by rw[bi];rfl) ?_));(try simp only[seval,aq,fU hr,fU h2,bU,aN,hw]);refine aK ((tw ?_));(try simp only[seval,cw]);refine aX ?_;exact ji hH hk
theorem ajA{x:ak}{s q:Nat}(hx:x.Ok)(hs:s<x.aC.length)(hq:q<x.pieces.length)(hm:H[0]?=some .main)(hk:∀D,fQ x 2 D->k (.aQ [iv (if D.has then vM ((D.aW.getD s 0).testBit q) (D.aW.getD s 0!=2^q)else 0),iv (fl D)]) H):ba true SA 28 H [x.av,iv s,iv q] k kp:=by
 refine bD (rs:=[.tmp 6,.tmp 7]) (nt:=27) Tryz.f28 λhH hA=> ?_;simp only[bp,SU,ak.av];have hp:=hx.am;obtain⟨p,iA⟩:∃p:Nat,x.am=p:=⟨x.am.toNat,by omega⟩;have bi:∀(L:List aa),(H++L)[H.length]?=L[0]?:=λL=>aZ H L 0;have cQ:∀(L:List aa),(H++L)[H.length+1]?=L[1]?:=λL=>aZ H L 1;have kq:∀(L:List aa),(H++L)[H.length+2]?=L[2]?:=λL=>aZ H L 2;have da:x.l.length=6:=rfl;have fL:Uh 6 x.l=x.l:=rfl;refine aj ?_;refine ab ?_;simp only[seval,bi,da,fL,Uf,UH,Um,T1];refine aK ((AH (x:=x) (b:=true) hx iA (fU hm) (λL k kp hk=>dc (ajP hx hs hq (by rw[SC,bi];rfl) (by rw[SC,kq];rfl) (by rw[SC,cQ];rfl) hk)) (λh=>by cases h) λ_ js D L mp iJ jH eo tU hg=> ?_));have oJ:fQ x 2 D:=⟨p,js,iA,iJ,jH,eo⟩;have fe:=Kn.len eo mp;have jY:=vN D mp;obtain⟨Y,hY⟩:∃Y:List aa,Y=[aa.cells x.l 26,.cells [iv s] 3,.cells [iv q] 3]++L:=⟨_,rfl⟩;obtain⟨B,hB⟩:∃B,B=H++Y:=⟨_,rfl⟩;have tD:H++[aa.cells x.l 26,.cells [iv s] 3,.cells [iv q] 3]++L=B:=by rw[hB,hY,SC]
 have oO:∀(L':List aa),(B++L')[B.length+1]?=L'[1]?:=λL'=>aZ B L' 1;have yJ:∀(L':List aa),(B++L')[H.length+1]?=some (.cells [iv s] 3):=λL'=>by rw[hB,hY,SC,cQ];rfl
 have oP:∀(L':List aa),(B++L')[H.length+2]?=some (.cells [iv q] 3):=λL'=>by rw[hB,hY,SC,kq];rfl
 have aJ:=hk D oJ;have fI:∀(L':List aa)(n m:Int),k (.aQ [iv n,iv m]) H->cH H.length (B++L') (.aQ [iv n,iv m]) k:=λL' n m h=>by
  rw[hB,SC];exact iH hH (Wk.refl _) (by simp[jM,dZ]) h
 rw[tD];clear tD hg hB;(try simp only[seval,ak.av,da,fe]);refine⟨vZ x,jY,?_⟩;cases hh:D.has with
 |false=>
  have hE:fl D=11:=by rw[fl,hh];rfl
  rw[hE,hh]at aJ;refine ab ?_;simp only[seval,hE,show ((11:Int)!=0)=true from rfl];refine aD ?_;refine aj ?_;refine aX ?_;exact fI _ 0 11 aJ
 |true=>
  have hE:fl D=0:=by rw[fl,hh];rfl
  rw[hE,hh]at aJ;refine ab ?_;simp only[seval,hE,show ((0:Int)!=0)=false from rfl];refine aD ?_;refine aF ?_;refine ab ?_;simp only[seval,F.abK,oO,yJ,oP,fe];rw[SW (i:=28) (by rw[fe];exact SO _)];refine aK ((ajQ (s:=s) (q:=q) eo (by have:=hx.db;omega) (by have:=hx.ee;omega) ?_));(try simp only[seval]);refine aX ?_;exact fI _ _ 0 aJ
end
theorem z2:gD (SF .i64 0) 2=[iv 0,iv 0]:=rfl
section
variable {H:List aa}{k kp:AV->List aa->Prop}
end
namespace Tk
structure ij where
 lo:Int
 hi:Int
 is:Bool
def ij.add (b:ij)(v:Int):ij:=if b.is then⟨min b.lo v,max b.hi v,true⟩else⟨v,v,true⟩
end Tk
def Tk.ij.l (b:ij):List AV:=[iv b.lo,iv b.hi,bv b.is]
section
variable {lv:Bool}{H:List aa}{k kp:AV->List aa->Prop}
theorem ajX{b:ij}{v:Int}{i:Nat}(hi:H[i]?=some (.cells b.l 112))(hk:k (.aQ []) (H.set i (.cells (b.add v).l 112))):ba lv SA 74 H [.op i 0,iv v] k kp:=by
 refine bD (rs:=[]) (nt:=38) Tryz.f74 λhH hA=> ?_;simp only[bp,SU];have br:=eW hi;obtain⟨hp,fh⟩:∃hp:List AV->List aa,∀l,hp l=H.set i (.cells l 112):=⟨_,λ_=>rfl⟩;have h0:H=hp b.l:=by rw[fh];exact(rh hi).symm
 have hg:∀l,(hp l)[i]?=some (.cells l 112):=λl=>by rw[fh,UX,if_pos rfl,if_pos br]
 have hs:∀l l',(hp l).set i (.cells l' 112)=hp l':=λl l'=>by rw[fh,fh,Xf]
 have fin:∀(N:Nat)(l:List AV),l=(b.add v).l->cH N (hp l) (.aQ []) k:=λN l e=>by
  rw[e,fh];exact ce hk
 rw[h0];clear hH hA fh h0 hi hk;refine ab ?_;simp only[seval,hg,ij.l];refine aD ?_;refine⟨λh=> ?_,λh=> ?_⟩
 ·have hb:b.is=false:=by simpa using h
  refine ab ?_;simp(maxSteps:=4000000) only[seval,hg,hs];refine nB [16,19] (SR 20) (λD=>bif isDone 19 D then hp [iv (min v v),iv (max v v),bv true]else bif isDone 16 D then hp [iv (min v v),iv v,bv true]else hp [iv v,iv v,bv true]) ?_;simp only[seval,hg,hs];have m1:(if v<v then v else v)=v:=by split<;>rfl
  have m2:min v v=v:=by omega
  have m3:max v v=v:=by omega
  rw[m1,m2,m3];exact⟨rfl,rfl,fin _ _ (by rw[ij.add,if_neg (by rw[hb];decide)];rfl)⟩
 ·have hb:b.is=true:=by simpa using h
  refine aF ?_;refine nB [16,19] (SR 20) (λD=>bif isDone 19 D then hp [iv (min b.lo v),iv (max b.hi v),bv b.is]else bif isDone 16 D then hp [iv (min b.lo v),iv b.hi,bv b.is]else hp [iv b.lo,iv b.hi,bv b.is]) ?_;simp only[seval,hg,hs];have m1:(if v<b.lo then v else b.lo)=min b.lo v:=by split<;>omega
  have m2:(if b.hi<v then v else b.hi)=max b.hi v:=by split<;>omega
  rw[m1,m2];exact⟨rfl,rfl,fin _ _ (by rw[ij.add,if_pos hb,hb];rfl)⟩
end
open Go.Conc Go.Proofs Go.Gg.Tk
namespace Tk
def wA (hour:Nat)(hs:List (List Int)):ij:=hs.foldl (λb h=>b.add (h.getD hour 0)) ⟨0,0,false⟩
end Tk
section
variable {lv:Bool}{H:List aa}{k kp:AV->List aa->Prop}
theorem ajW{x:ak}{hour:Nat}{ih ir:Nat}(hh:(hour:Int)<=x.hours)(h1:H[ih]?=some (.cells [iv hour] 3))(hr:H[ir]?=some (.cells x.l 26))(hk:k (bv true) H):ba lv SA 73 H [.op ih 0,.op ir 0] k kp:=by
 refine bD (rs:=[.tmp 2]) (nt:=8) Tryz.f73 λhH hA=> ?_;simp only[bp,SU];have bU:x.l=[iv x.first,iv x.hours,iv x.am,c_ x.seen,aN x.pieces,aN x.aC]:=rfl;have cw:(decide ((hour:Int)<0)||decide ((hour:Int)>x.hours))=false:=by simp;omega
 refine aj ?_;refine ab ?_;simp only[seval,h1,hr,bU];refine aK ((tw ?_));(try simp only[seval,cw]);refine aX ?_;exact ce hk
theorem ajF{x:ak}{hour:Nat}(hx:x.Ok)(hh:(hour:Int)<=x.hours)(hm:H[0]?=some .main)(hk:∀D,fQ x 0 D->(D.has=false->k (.aQ [.agg [iv 0,iv 0],iv 11]) H)/\(D.has=true->∀hs:List (List Int),hs.Perm D.aL->k (.aQ [.agg [iv (wA hour hs).lo,iv (wA hour hs).hi],iv 0]) H)):ba true SA 36 H [x.av,iv hour] k kp:=by
 refine bD (rs:=[.cell 4 46,.tmp 5]) (nt:=41) Tryz.f36 λhH hA=> ?_;simp only[bp,SU,ak.av];have hp:=hx.am;have yS:=hx.hours;obtain⟨p,iA⟩:∃p:Nat,x.am=p:=⟨x.am.toNat,by omega⟩;have bi:∀(L:List aa),(H++L)[H.length]?=L[0]?:=λL=>aZ H L 0;have cQ:∀(L:List aa),(H++L)[H.length+1]?=L[1]?:=λL=>aZ H L 1;have kq:∀(L:List aa),(H++L)[H.length+2]?=L[2]?:=λL=>aZ H L 2;have fZ:∀(L:List aa)(y:aa),(H++L).set (H.length+2) y=H++L.set 2 y:=λL y=>dH H L 2 y;have da:x.l.length=6:=rfl;have fL:Uh 6 x.l=x.l:=rfl;refine aj ?_;refine ab ?_;simp only[seval,bi,da,fL,Uf,UH,Um,T1];refine aK ((AH (x:=x) (b:=true) hx iA (fU hm) (λL k kp hk=>dc (ajW hh (by rw[SC,cQ];rfl) (by rw[SC,bi];rfl) hk)) (λh=>by cases h) λ_ js D L mp iJ jH eo tU hg=> ?_));have oJ:fQ x 0 D:=⟨p,js,iA,iJ,jH,eo⟩;have fe:=Kn.len eo mp;have jY:=vN D mp;obtain⟨iK,cI⟩:=hk D oJ;obtain⟨Bf,oH⟩:∃Bf:List AV->List aa,∀l,Bf l=H++([aa.cells x.l 26,.cells [iv hour] 3,.cells l 46]++L):=⟨_,λ_=>rfl⟩;have tD:H++[aa.cells x.l 26,.cells [iv hour] 3,.cells [iv 0,iv 0] 46]++L=Bf [iv 0,iv 0]:=by rw[oH,SC]
 obtain⟨N,hN⟩:∃N,N=H.length+3+L.length:=⟨_,rfl⟩;have dF:∀l,(Bf l).length=N:=λl=>by rw[oH,hN];simp;omega
 have b1:∀l (L':List aa),(Bf l++L')[H.length+1]?=some (.cells [iv hour] 3):=λl L'=>by rw[oH,SC,cQ];rfl
 have b2:∀l (L':List aa),(Bf l++L')[H.length+2]?=some (.cells l 46):=λl L'=>by rw[oH,SC,kq];rfl
 have uM:∀l l' (L':List aa),(Bf l++L').set (H.length+2) (.cells l' 46)=Bf l'++L':=λl l' L'=>by rw[oH,SC,fZ,oH];simp
 have bn:∀l (L':List aa)(j:Nat),(Bf l++L')[N+j]?=L'[j]?:=λl L' j=>by rw[<- dF l,aZ]
 have wB:∀l (L':List aa)(j:Nat)(y:aa),(Bf l++L').set (N+j) y=Bf l++L'.set j y:=λl L' j y=>by rw[<- dF l,dH]
 rw[tD]at hg⊢;have fI:∀(l:List AV)(L':List aa)(a b:Int)(m:Int),k (.aQ [.agg [iv a,iv b],iv m]) H->cH H.length (Bf l++L') (.aQ [.agg [iv a,iv b],iv m]) k:=λl L' a b m h=>by
  rw[oH,SC];exact iH hH (Wk.refl _) (by simp[jM,dZ,uk]) h
 (try simp only[seval,ak.av,da,fe,dF]);refine⟨vZ x,jY,?_⟩;cases iX:D.has with
 |false=>
  have hE:fl D=11:=by rw[fl,iX];rfl
  refine ab ?_;simp only[seval,hE,show ((11:Int)!=0)=true from rfl];refine aD ?_;refine ab ?_;simp only[seval,b2,uM];refine oD ?_;simp only[seval,b2];exact fI _ _ 0 0 11 (iK iX)
 |true=>
  have hE:fl D=0:=by rw[fl,iX];rfl
  refine ab ?_;simp only[seval,hE,show ((0:Int)!=0)=false from rfl];refine aD ?_;refine aF ?_;refine ab ?_;simp only[seval,dF];refine ab ?_;simp only[seval,Uf,UH,Um,T1];have pG:(D.l mp).drop 1=.mp mp::((D.l mp).drop 2):=rfl;obtain⟨ts,dU⟩:∃ts,ts=D.aL.zipIdx:=⟨_,rfl⟩;obtain⟨ck,G3⟩:∃ck,ck=D.aL.length:=⟨_,rfl⟩;have qH:∀l (L':List aa),(Bf l++L')[mp]?=some (.obj (.map (ts.map eG).toArray ck)):=λl L'=>by
   have h0:(Bf [iv 0,iv 0])[mp]?=some (setH D.aL):=hg;have aH:mp≠H.length+2:=λe=>by
    have:=b2 [iv 0,iv 0] [];rw[SN,<- e,h0]at this;cases this
   have h1:(Bf l)[mp]?=some (setH D.aL):=by
    have:=uM [iv 0,iv 0] l [];rw[SN,SN]at this;rw[<- this,Ud (λe=>aH e.symm)];exact h0
   rw[dU,G3];exact fU h1
  have qG:∀y∈ts,y.2<ck:=λy hy=>by rw[dU]at hy;have:=List.snd_lt_add_of_mem_zipIdx hy;omega
  have D4:(ts.map (·.2)).Nodup:=by rw[dU,show (λy:List Int×Nat=>y.2)=Prod.snd from rfl,List.zipIdx_map_snd];exact List.nodup_range'
  have h4:∀y∈ts,y.1.length=4:=λy hy=>by rw[dU]at hy;exact eo.h4 _ (FE hy)
  have eN:=QT ts ck qG;have Nn:ts.map (·.1)=D.aL:=by rw[dU,show (λy:List Int×Nat=>y.1)=Prod.fst from rfl,List.zipIdx_map_fst]
  clear dU;refine ab ?_;simp only[seval,dF,bn,pG,qH];obtain⟨j3,fh⟩:∃j3:ij->Array Nat->List aa,∀b sn,j3 b sn=Bf [iv 0,iv 0]++[.cells x.l 76,.cells (D.l mp) 88,.cells b.l 112,.iter mp ck sn ck]:=⟨_,λ_ _=>rfl⟩;have p1:∀b sn (L':List aa),(j3 b sn++L')[H.length+1]?=some (.cells [iv hour] 3):=λb sn L'=>by rw[fh,SC];exact b1 _ _
  have p2:∀b sn (L':List aa),(j3 b sn++L')[N+2]?=some (.cells b.l 112):=λb sn L'=>by rw[fh,SC,bn];rfl
  have p3:∀b sn (L':List aa),(j3 b sn++L')[N+3]?=some (.iter mp ck sn ck):=λb sn L'=>by rw[fh,SC,bn];rfl
  have p3':∀b sn,(j3 b sn)[N+3]?=some (.iter mp ck sn ck):=λb sn=>by have:=p3 b sn [];rwa [SN]at this
  have p4:∀b sn (L':List aa),(j3 b sn++L')[N+4]?=L'[0]?:=λb sn L'=>by rw[fh,SC,bn];rfl
  have pm:∀b sn (L':List aa),(j3 b sn++L')[mp]?=some (.obj (.map (ts.map eG).toArray ck)):=λb sn L'=>by rw[fh,SC];exact qH _ _
  have OM:∀b sn,(j3 b sn)[mp]?=some (.obj (.map (ts.map eG).toArray ck)):=λb sn=>by have:=pm b sn [];rwa [SN]at this
  have s2:∀b sn b' (L':List aa),(j3 b sn++L').set (N+2) (.cells (ij.l b') 112)=j3 b' sn++L':=λb sn b' L'=>by rw[fh,SC,wB,fh,SC];rfl
  have s3:∀b sn Po,(j3 b sn).set (N+3) (.iter mp ck Po ck)=j3 b Po:=λb sn Po=>by rw[fh,wB,fh];rfl
  have pl:∀b sn,(j3 b sn).length=N+4:=λb sn=>by rw[fh];simp[dF]
  have aP:Bf [AV.val (SF SD 0),AV.val (SF SD 0)]++[.cells x.l 76,.cells (D.l mp) 88,.cells [AV.val (SF SD 0),AV.val (SF SD 0),AV.val (Xj false)] 112,.iter mp ck #[] ck]=j3 ⟨0,0,false⟩ #[]:=by rw[fh];rfl
  rw[aP];have pK:hour<4:=by omega
  have b4:(0<=(hour:Int)/\(hour:Int)<4)=True:=by simp;omega
  have s46:∀b sn l,(j3 b sn).set (H.length+2) (.cells l 46)=Bf l++[.cells x.l 76,.cells (D.l mp) 88,.cells b.l 112,.iter mp ck sn ck]:=λb sn l=>by rw[fh,uM]
  have p46:∀b sn,(j3 b sn)[H.length+2]?=some (.cells [iv 0,iv 0] 46):=λb sn=>by rw[fh,b2]
  have p2':∀b sn,(j3 b sn)[N+2]?=some (.cells (ij.l b) 112):=λb sn=>by have:=p2 b sn [];rwa [SN]at this
  refine bP ?_;refine An (measure λvs:List (List Int×Nat)=>ts.length-vs.length).wf (λvs=>[]) (λvs=>j3 (wA hour (vs.map (·.1))) (vs.map (·.2)).toArray) (λvs=>(vs.map (·.2)).Nodup/\∀y∈vs,y∈ts) [] (λ_ _=>rfl) (by simp) rfl (λ_ _=>by simp[pl]) ⟨by simp,by simp⟩ (λbw bG vs aq R hR=> ?_);refine ab ?_;simp only[seval,p3',OM,s3];refine⟨eN.elim .inl (λh=> .inr (.inl h)),λe he hn=> ?_,λhs=> ?_⟩
  ·obtain⟨y,hy,rfl⟩:∃y∈ts,eG y=e:=(by simpa using he);refine aD ?_;refine aF ?_;refine bP ?_;have tC:=h4 y hy;have LX:(eG y).born=y.2:=rfl;have hlen:(y.1.map iv).length=4:=(by simp[tC]);have L8:TR 4 [AV.val (SF SD 0),AV.val (SF SD 0),AV.val (SF SD 0),AV.val (SF SD 0)]=[]:=rfl;obtain⟨w,hw⟩:=bE (xs:=y.1) (i:=hour) (by omega);have Nr:y.1.getD hour 0=w:=(by rw[SE,hw];rfl);have Nw:y.2∉vs.map (·.2):=(by simpa[eG]using hn);have Hz:((vs.map (·.2)).toArray.push y.2)=((vs++[y]).map (·.2)).toArray:=(by simp);have alk:(wA hour (vs.map (·.1))).add w=wA hour ((vs++[y]).map (·.1)):=by
    unfold wA;rw[To,WZ];show _=ij.add _ (y.1.getD hour 0);rw[Nr]
   have tW:((vs++[y]).map (·.2)).Nodup/\∀z∈vs++[y],z∈ts:=by
    refine⟨?_,λz hz=> ?_⟩
    ·rw[To,Vh];refine⟨aq.1,by simp,λa ha b hb=> ?_⟩;simp at hb;subst hb;intro e;subst e;exact Nw ha
    ·rcases SV.1 hz with h|h
     ·exact aq.2 z h
     ·rw[S9.1 h];exact hy
   have Hj:vs.length<ts.length:=by
    have h1:(vs++[y]).Nodup:=ER _ tW.1;have:=h1.length_le_of_subset tW.2;simp at this;omega
   have se:ts.length-(vs++[y]).length<ts.length-vs.length:=(by simp;omega);have Hu:∀b sn,bJ (j3 b sn):=λb sn z hz=>by
    have aav:bJ (j3 ⟨0,0,false⟩ #[]):=bw;rw[pl];rw[fh]at hz;have cw:∀z,z∈j3 ⟨0,0,false⟩ #[]->eZ (N+4) z:=λz hz=>by
     have:=aav z hz;rwa [pl]at this
    rcases SV.1 hz with h|h
    ·exact cw z (by rw[fh];exact Ti _ h)
    ·simp only[SK,SZ,or_false]at h;rcases h with rfl|rfl|rfl|rfl
     ·exact cw _ (by rw[fh];simp)
     ·exact cw _ (by rw[fh];simp)
     ·intro a ha;simp only[ij.l,SK,SZ,or_false]at ha;rcases ha with rfl|rfl|rfl<;>exact .val _
     ·show mp<N+4;have:=eW (OM ⟨0,0,false⟩ #[]);rwa [pl]at this
   refine ab ?_;simp only[seval,p3',OM,s3,pl,p4,LX,Array.back?_push,Sp D4 hy,acR,tC,hlen,L8];refine ab ?_;simp only[seval,p1,p4,b4,lc hw];refine aK ((ajX (b:=wA hour (vs.map (·.1))) (v:=w) (i:=N+2) (p2 _ _ _) ?_));rw[s2,alk,Hz];(try simp only[seval]);refine hR _ ⟨vs++[y],se,tW,?_⟩;exact ado (lC rfl rfl) (by simp only[seval]<;>simp[bk,Wk.refl]) (Hu _ _) (by simp[dZ])
  ·have mw:vs.Perm ts:=ady aq.1 D4 aq.2 λy hy=>by
    have:=hs (eG y) (by simp;exact⟨y.1,y.2,hy,rfl⟩) (qG y hy);simpa[eG]using this
   have MY:(vs.map (·.1)).Perm D.aL:=by
    have:=mw.map (·.1);rw[Nn]at this;exact this
   have aJ:=cI iX _ MY;generalize wT:wA hour (vs.map (·.1))=bv' at aJ;refine aD ?_;refine bO ?_;refine ab ?_;simp only[seval,p2',p46,s46,ij.l,wT];refine oD ?_;simp only[seval,b2];exact fI _ _ _ _ 0 aJ
end
open Go.Conc Go.Proofs Go.Gg.Tk
namespace Tk
end Tk
section
variable {lv:Bool}{H:List aa}{k kp:AV->List aa->Prop}
end
open Go.Conc Go.Proofs Go.Gg.Tk
namespace Tk
def vR (out n:Int):Int:=if 0<=n/\(out<0\/n<out)then n else out
def xp (l:List Int):Int:=l.foldl vR (-1)
def uW (aW:List Nat)(i:Nat):List Int:=(SR i).flatMap λs=>if 1<(dV (aW.getD s 0) 0 16).length then[-1]else dV (aW.getD s 0) 0 16
theorem aar(aW:List Nat)(i:Nat):uW aW (i+1)=uW aW i++(if 1<(dV (aW.getD i 0) 0 16).length then[-1]else dV (aW.getD i 0) 0 16):=by
 unfold uW;rw[UZ,Uk];simp
theorem aaq(aW:List Nat):∀i,(uW aW i).length<=i
 |0=>by simp[uW]
 |i+1=>by
  have:=aaq aW i;rw[aar,SQ];split
  ·simp;omega
  ·omega
end Tk
theorem Jh{a a' b b':AV}(h1:Wk a a')(h2:Wk b b'):Wk (.aQ [a,b]) (.aQ [a',b']):=λE v h=>by
 cases h with
 |aQ hs h=>
  refine .aQ hs λi x e=> ?_
  match i with
  |0=>cases e;exact h1 _ _ (h 0 a rfl)
  |1=>cases e;exact h2 _ _ (h 1 b rfl)
open Go.Conc Go.Proofs Go.Gg.Tk
section
variable {lv:Bool}{H:List aa}{k kp:AV->List aa->Prop}
theorem ajw{x:ak}(hx:x.Ok)(hm:H[0]?=some .main)(hk:∀D,fQ x 2 D->(D.has=false->k (.aQ [aM [],iv 11]) H)/\(D.has=true->k (.aQ [aM (uW D.aW x.aC.length),iv 0]) H)):ba true SA 26 H [x.av] k kp:=by
 refine bD (rs:=[.tmp 2,.tmp 3]) (nt:=39) Tryz.f26 λhH hA=> ?_;simp only[bp,SU,ak.av];have hp:=hx.am;have aP:=hx.db;obtain⟨p,iA⟩:∃p:Nat,x.am=p:=⟨x.am.toNat,by omega⟩;have bU:x.l=[iv x.first,iv x.hours,iv x.am,c_ x.seen,aN x.pieces,aN x.aC]:=rfl;have bi:∀(L:List aa),(H++L)[H.length]?=L[0]?:=λL=>aZ H L 0;have da:x.l.length=6:=rfl;have fL:Uh 6 x.l=x.l:=rfl;refine aj ?_;refine ab ?_;simp only[seval,bi,da,fL];refine aK ((AH (x:=x) hx iA (fU hm) JW (λh=>by cases h) λ_ js D L mp iJ jH eo tU hg=> ?_));have oJ:fQ x 2 D:=⟨p,js,iA,iJ,jH,eo⟩;have fe:=Kn.len eo mp;have jY:=vN D mp;obtain⟨iK,cI⟩:=hk D oJ;obtain⟨Y,hY⟩:∃Y:List aa,Y=[aa.cells x.l 26]++L:=⟨_,rfl⟩;obtain⟨B,hB⟩:∃B,B=H++Y:=⟨_,rfl⟩;have tD:H++[aa.cells x.l 26]++L=B:=by rw[hB,hY,SC]
 have A3:∀(L':List aa),(B++L')[H.length]?=some (.cells x.l 26):=λL'=>by rw[hB,hY,SC,bi];rfl
 have bn:∀(L':List aa)(j:Nat),(B++L')[B.length+j]?=L'[j]?:=λL' j=>aZ B L' j;have wB:∀(L':List aa)(j:Nat)(y:aa),(B++L').set (B.length+j) y=B++L'.set j y:=λL' j y=>dH B L' j y;have fI:∀(L':List aa)(ns:List Int)(e:End)(m:Int),k (.aQ [aM ns,iv m]) H->cH H.length (B++L') (.aQ [.sl ns.length (ns.map iv) e,iv m]) k:=λL' ns e m h=>by
  rw[hB,SC];exact iH hH (Jh (eQ _ _ _) (Wk.refl _)) (by simp[jM,dZ,aM,p8]) h
 rw[tD];clear tD hg;(try simp only[seval,ak.av,da,fe]);refine⟨vZ x,jY,?_⟩;cases iX:D.has with
 |false=>
  have hE:fl D=11:=by rw[fl,iX];rfl
  refine ab ?_;simp only[seval,hE,show ((11:Int)!=0)=true from rfl];refine aD ?_;refine aj ?_;refine aX ?_;exact fI _ [] .exact 11 (iK iX)
 |true=>
  have hE:fl D=0:=by rw[fl,iX];rfl
  refine ab ?_;simp only[seval,hE,show ((0:Int)!=0)=false from rfl];refine aD ?_;refine aF ?_;refine aj ?_
  (repeat apply eT);refine nC (t:=7) (sz:=1) (el:=3) (by simp only[seval]<;>rfl) ?_
  have kI:TR 5 x.l=[.sl x.aC.length (x.aC.flatMap aB.l) .shut]:=rfl;refine ab ?_;simp only[seval,A3,kI];have CY:∀(L':List aa),(B++L')[B.length+1]?=L'[1]?:=λL'=>bn L' 1;have Aq:∀(L':List aa),(B++L')[B.length+2]?=L'[2]?:=λL'=>bn L' 2;have uM:∀(L':List aa)(y:aa),(B++L').set (B.length+2) y=B++L'.set 2 y:=λL' y=>wB L' 2 y;obtain⟨gl,jV⟩:∃gl:Nat->List Int,∀i,gl i=uW D.aW i:=⟨_,λ_=>rfl⟩;have DR:gl 0=[]:=by rw[jV];rfl
  have Mk:∀i,(gl i).length<=i:=λi=>by rw[jV];exact aaq _ _
  refine bP ?_;refine ek x.aC.length (λi:Nat=>[(7,.sl (gl i).length ((gl i).map iv) (.opn (B.length+2))),(22,iv i)]) (λi=>B++[.cells x.l 76,.cells (D.l mp) 88,.tail (gl i).length 1 3]) (λi=>True) (λ_ _=>rfl) (by rw[DR];simp only[seval];simp[bk,Wk.refl]) (by rw[DR];rfl) (λ_ _ _=>by simp) trivial (λbw bG i cw _ R hR=> ?_);refine aj ?_;refine aD ?_;refine⟨λh=> ?_,λh=> ?_⟩
  ·have br:i<x.aC.length:=(by omega);obtain⟨u,hu⟩:=bE (xs:=D.aW) (i:=i) (by rw[eo.aW];omega);have lu:=eo.l_ _ (S6 hu);have b3:(0<=(i:Int)/\(i:Int)<3)=True:=(by simp;omega);have fV:SD.wrap ((i:Int)+1)=((i+1:Nat):Int):=(by rw[bc _ (by omega)];rfl);have DK:=Kn.Fa eo (mp:=mp) hu;have cR:gl (i+1)=gl i++(if 1<(dV u 0 16).length then[-1]else dV u 0 16):=by
    rw[jV,jV,aar,SE,hu];rfl
   have MB:=Mk i;have eY:=N_ u 0 16;refine aF ?_;refine aj ?_;refine ab ?_;simp only[seval,CY,b3,DK];refine aK ((KT lu (by decide) ?_));(try simp only[seval,aM]);refine aj ?_;refine aD ?_;refine⟨λhb=> ?_,λhb=> ?_⟩
   ·refine ab ?_;simp only[seval,z1];(try refine⟨by decide,?_⟩);refine ab ?_;simp only[seval,Aq,uM];refine⟨by omega,?_⟩;refine ab ?_;simp only[seval,fV];have oO:1<(dV u 0 16).length:=(by have h2:(1:Int)<((dV u 0 16).length:Int):=(by simpa using hb);omega);rw[if_pos oO]at cR;refine hR _ ⟨br,trivial,?_⟩;rw[cR,To,SQ];exact bX
   ·refine aF ?_;refine ab ?_;simp only[seval,Aq,uM];refine⟨by omega,?_⟩;refine ab ?_;simp only[seval,fV];have oO:¬1<(dV u 0 16).length:=(by have h2:((dV u 0 16).length:Int)<=1:=(by simpa using hb);omega);rw[if_neg oO]at cR;refine hR _ ⟨br,trivial,?_⟩;rw[cR,To,SQ];exact bX
  ·have dB:i=x.aC.length:=(by omega);subst dB;refine bO ?_;refine aj ?_;refine aX ?_;have aJ:=cI iX;rw[<- jV]at aJ;exact fI _ _ _ 0 aJ
theorem ajS{ns:List Int}{e:End}(iz:ns.length<=16)(hk:k (iv (xp ns)) H):ba lv SA 69 H [.sl ns.length (ns.map iv) e] k kp:=by
 refine bD (rs:=[.tmp 2]) (nt:=26) Tryz.f69 λhH hA=> ?_;simp only[bp,SU];refine aj ?_;refine aj ?_;refine aj ?_;refine bP ?_;refine ek ns.length (λi:Nat=>[(3,iv (xp (ns.take i))),(8,iv i)]) (λ_=>_) (λi=>True) (λ_ _=>rfl) (by simp only[seval];simp[bk,Wk.refl];exact Wk.refl _) rfl (λ_ _ _=>rfl) trivial (λbw bG i cw _ R hR=> ?_);refine aj ?_;refine aD ?_;refine⟨λh=> ?_,λh=> ?_⟩
 ·have br:i<ns.length:=by omega
  obtain⟨n,hn⟩:=bE br;have fV:SD.wrap ((i:Int)+1)=((i+1:Nat):Int):=by rw[bc _ (by omega)];rfl
  have cR:xp (ns.take (i+1))=vR (xp (ns.take i)) n:=by
   unfold xp;rw[Uo,hn,WZ];rfl
  generalize xp (ns.take i)=o at cR hR⊢;refine aF ?_;refine ab ?_;simp only[seval,dN hn,iR br];by_cases c1:0<=n
  ·have d1:decide (n>=0)=true:=decide_eq_true c1;by_cases c2:o<0
   ·have d2:decide (o<0)=true:=decide_eq_true c2;refine ab ?_;simp only[seval,d1,d2];refine aD ?_;refine aj ?_;refine ab ?_;simp only[seval,fV];rw[vR,if_pos ⟨c1,.inl c2⟩]at cR;refine hR _ ⟨br,trivial,?_⟩;rw[cR];exact bX
   ·have d2:decide (o<0)=false:=decide_eq_false c2;by_cases c3:n<o
    ·have d3:decide (n<o)=true:=decide_eq_true c3;refine ab ?_;simp only[seval,d1,d2,d3];refine aD ?_;refine aj ?_;refine ab ?_;simp only[seval,fV];rw[vR,if_pos ⟨c1,.inr c3⟩]at cR;refine hR _ ⟨br,trivial,?_⟩;rw[cR];exact bX
    ·have d3:decide (n<o)=false:=decide_eq_false c3;refine ab ?_;simp only[seval,d1,d2,d3];refine aD ?_;refine aF ?_;refine ab ?_;simp only[seval,fV];rw[vR,if_neg (λhc=>hc.2.elim c2 c3)]at cR;refine hR _ ⟨br,trivial,?_⟩;rw[cR];exact bX
  ·have d1:decide (n>=0)=false:=decide_eq_false c1;(repeat apply eT);refine Ao (by kernel_rfl) ?_;simp only[seval,d1];refine aD ?_;refine aF ?_;refine ab ?_;simp only[seval,fV];rw[vR,if_neg (λhc=>c1 hc.1)]at cR;refine hR _ ⟨br,trivial,?_⟩;rw[cR];exact bX
 ·have:i=ns.length:=by omega
  subst this;refine bO ?_;refine aj ?_;refine aX ?_;rw[Tn];exact ce hk
end
end Go.Gg
