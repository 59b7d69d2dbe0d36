/- A part of the proof. -/
import Derived.Test.YtkanpclgnhdbiaaGreatDoorTicketStepsCard2
import Derived.Conc.CrowdStepC
import Derived.Conc.LeavingOf
import Derived.Conc.AtomicLaws
import Derived.Conc.AtomicLaws2
import Derived.Conc.MarkLaws
import Derived.Conc.SmallLaws
import Derived.Laws.LoneSync
import Derived.KernelRfl
import Derived.Test.YtkanpclgnhdbiaaGreatDoorProg
import Derived.Conc.TokenWalk
set_option linter.all false
set_option maxRecDepth 4000
set_option maxHeartbeats 1000000
open Array renaming all_eq_true_iff_forall_mem->Uq,append_assoc->WL,empty_append->WK,ext'->Va,getD_eq_getD_getElem?->SH,getElem?_eq_getElem->SJ,getElem?_eq_some_iff->SP,getElem?_push->WC,getElem?_setIfInBounds->VI,getElem?_setIfInBounds_ne->SR,getElem?_setIfInBounds_self_of_lt->S7,getElem_mem->Xd,isEmpty_empty->Yb,mem_iff_getElem?->XS,replicate->TA,size->Zb
open BitVec renaming ofInt->T4
open Bool renaming and_eq_true->Td,eq_iff_iff->UL,false_or->YG,not_eq_true'->TL,not_false->XQ,not_true->ZD,true_or->Zj
open Classical renaming byContradiction->To
open Eq renaming trans->Vl
open Function renaming comp_def->XL
open Go renaming mark->Zg,step->Zf
open Go.Conc renaming Good->Wm,mem_ofEvents->TB,served->TO
open Go.Conc.QuitsD renaming status->YN
open Go.Event renaming mute->VU
open Go.Extern.Atomic renaming casT->Wi,loadT->Xk,storeT->Xc,update->Xb
open Go.Extern.Race renaming marked->Vj,none_->Wt
open Go.Extern.Sync renaming semacquire->VT,semrelease->Xa
open Go.GStep renaming after->TN
open Go.Goroutine.mk renaming injEq->Zi
open Go.Instr renaming loadAt->WU,sureAddr->UM
open Go.IntKind renaming i64->SE,u32->Zp,u64->Ts,wrap->Wy
open Go.MemAct renaming ofEvent->Tm
open Go.MemOp renaming ofEvents->S8
open Go.Obj renaming deferred->ZU
open Go.Op renaming intArith->ZT
open Go.Operand renaming const->ZS,tmp->ZI
open Go.Proofs.Tryz renaming f77->W8,prog->SD
open Go.Region renaming wanted->Tf
open Go.Result renaming ok->Xy
open Go.Sem renaming runT_eq->Tt
open Go.Trace renaming g?->VQ
open Go.Value renaming bool->WB,chan->W_,int->SG
open Go.World renaming cell?->Uj,frozen?->YX,setChan->VE
open Int renaming toNat_natCast->U8
open List renaming any_cons->X6,any_eq_true->Uw,append_assoc->SC,append_nil->SI,cons_append->Vb,drop->Ud,drop_eq_nil_of_le->TK,ext_getElem?->Zw,findIdx?_eq_none_iff->Xv,findIdx?_eq_some_iff_getElem->WN,foldl_append->Xj,foldl_cons->Ux,forall_mem_cons->WA,getD_eq_getElem?_getD->SF,getElem?_append_left->SY,getElem?_append_right->Tg,getElem?_drop->T9,getElem?_eq_getElem->SV,getElem?_eq_none->Us,getElem?_eq_some_iff->SM,getElem?_map->Ti,getElem?_range->YV,getElem?_set->UD,getElem?_set_ne->TP,getElem?_toArray->UQ,getElem_mem->VM,getLast?_eq_some_getLast->W9,getLastD_eq_getLast?->UT,getLast_mem->Yz,head?_append->Wb,length_append->SQ,length_cons->T7,length_map->Tj,length_nil->UA,length_pos_iff->Vp,length_singleton->TQ,mapM_cons->TS,mapM_nil->Um,mapM_toArray->Xi,map_append->Tv,map_cons->UE,mem_append->SN,mem_append_left->Tb,mem_append_right->SZ,mem_cons->SK,mem_flatMap->S4,mem_iff_getElem?->Uz,mem_map->Th,mem_of_getElem?->S_,mem_range->TH,mem_replicate->W6,mem_singleton->S5,mem_toArray->Tx,nil_append->Up,nodup_append->UC,nodup_nil->V_,nodup_range->Xf,not_mem_nil->SU,range->SX,range_succ->UV,replicate->TG,set_append_left->WQ,set_cons_succ->Un,set_cons_zero->TM,set_set->Wu,take->T_,take_add_one->Vh,take_append_of_le_length->Tq,take_length->TE,take_of_length_le->SW,take_succ_eq_append_getElem->W4
open List.cons renaming inj->U5
open Nat renaming add_sub_cancel_left->Ve,add_zero->Uv,eq_zero_or_pos->UF,le_refl->SO,le_trans->Ur,lt_of_lt_of_le->Ta,lt_succ_self->Ug,reduceAdd->SS,reduceEqDiff->YI
open Option renaming bind_eq_bind->TD,bind_eq_some_iff->Tc,getD_none->UW,getD_some->S6,map_eq_some_iff->Tl,map_some->UB,pure_def->T5
open Option.some renaming inj->Vz,injEq->Te
open Prod.mk renaming inj->Wn,injEq->UH
namespace Go.Gg
open Go.Conc Go.ConcN
section
variable {P:Program}{n0:Nat}{W0:World}{V:View}{gs gs':Array Goroutine}{w w':World}{sl:Option (Nat×Nat)}{t:Trace}{K:Nat->GS}{Im:cz}{ic:Nat}{p:Phase}{st st':Option eI}
theorem N1{t:Trace}{g i j:Nat}(hi:t.g? i=some g)(hj:t.g? j=some g)(h:i<=j):Before t i j:=by
 rcases Nat.eq_or_lt_of_le h with rfl|h
 ·exact .inl rfl
 ·obtain⟨a,ha,rfl⟩:=Tl.1 hi;obtain⟨b,hb,hg⟩:=Tl.1 hj;exact .inr (.single (.inl ⟨h,by simp[VQ,ha,hb,hg]⟩))
theorem Inv.adX(h:Inv P n0 W0 V gs w t K Im ic (some p) st)(aJ:p.recv=true){n:Nat}{gi:Goroutine}(aM:gs[ic]?=some gi)(hK:K ic= .acq n)(jI:tr P Im p.c p.Wg (Deaf t ic) gi):gK P n0 W0 V gs w sl t K Im ic (some p) st ic:=by
 obtain⟨s,hs,gE,iS,hm⟩:=h.mode aJ;obtain⟨m1,m2,m3,m4,m5⟩:=hm.NJ (.inr (by rw[hK];rfl));obtain⟨hd,bK,g',aQ,n',dX⟩:=jI;have nI:∀e∈#[j8 (.acquire (eo p.Wg))],e=j8 (.acquire (eo p.Wg)):=λe he=>by simpa using he
 have Ry:g'.status= .running:=cR.running (λd g x=>x.2.1) dX;refine h.te aJ (k':= .look n') (s':= .got) gE aM (aQ w) (by rw[hd];exact dX) (by rw[hK];exact FV Im) (λ_=>rfl) rfl (λj hj=>by rw[hK]at hj;cases hj) (.inl rfl) (λe he x hx=> ?_) (λe he=> ?_) (λe he a=> ?_) rfl (λ_ _ _=>rfl) rfl rfl rfl
  ?_ (.inl m1) ?_ (xP iS (by rw[hK];exact .inl (by simp[GS.da])))
 ·rw[nI e he]at hx;cases hx
 ·rw[nI e he];exact h.low.2
 ·rw[nI e he];simp[j8,Tm]
 ·unfold Mode;have e1:sumTo gs.size (λi=>(upd K ic (.look n') i).cnt)=0:=by rw[lr K (.look n') GS.cnt (by rw[hK];rfl)];exact m4
  have e2:sumTo gs.size (λi=>(upd K ic (.look n') i).late)=0:=by rw[lr K (.look n') GS.late (by rw[hK];rfl)];exact m3
  simp only[e1,e2,bx];exact .inr (.inr (.inr (.inr (.inr (.inl ⟨m1,trivial,trivial,trivial, .inl rfl⟩)))))
 ·have hr:Rest p.Wg t K ic st:=h.out.2.2.1;rw[hs,m2]at hr;rw[ofEvents_one];refine hr.app (λidx a ha hx=> .inr ?_) (λidx a _ ⟨op,au,_,hx⟩ _=> ?_)
  ·obtain⟨i,JQ,e9,hx⟩:=hx;have ajU:=h.core.ti.norel;have own:t.g? idx=some ic->Knows (t++#[{g:=ic,fn:=gi.frame.fn,pos:=gi.frame.place,act:= .ofEvent (j8 (.acquire (eo p.Wg)))}]) ic idx:=λe=>by
    obtain⟨op,ho,pj⟩:=Tl.1 e;rw[<- pj];exact(knows_own ho).app _
   rcases hx with hx|rfl|⟨r,pn,hle⟩
   ·exfalso;have ajE:i<gs.size:=by
     obtain⟨op,ho,pj⟩:=Tl.1 JQ;rw[<- pj];exact h.core.ti.gs op (mem_of_getElem? ho)
    have gX:(K i).cnt=1:=by cases kY:K i<;>rw[kY]at hx<;>first|rfl|cases hx
    have hle:(K i).cnt<=sumTo gs.size λi=>(K i).cnt:=le_sumTo (f:=λi=>(K i).cnt) ajE;omega
   ·exact own JQ
   ·exact adY pn.act pn.heard ajU ⟨rfl,rfl⟩ hd (N1 JQ pn.g hle)
  ·simp only[Tx,SK,SU,or_false]at au;subst au;cases hx
theorem Rest.got{Wg:Nat}(hr:Rest Wg t K ic (some .got)){es:Array Event}{fn:FuncId}{pos:String}{K':Nat->GS}:Rest Wg (t++S8 ic fn pos es) K' ic (some .got):=by
 refine hr.app (λidx a ha hx=> .inr (Knows.app _ hx)) (λidx a _ ⟨op,au,c9,_⟩ _=> .inr (.inr ?_));obtain⟨e,_,rfl⟩:=TB au;exact knows_own c9
theorem Inv.al7(h:Inv P n0 W0 V gs w t K Im ic (some p) st)(aJ:p.recv=true){n:Nat}{gi:Goroutine}(aM:gs[ic]?=some gi)(hK:K ic= .look n)(jI:Hk P Im p.c (Deaf t ic) gi):gK P n0 W0 V gs w sl t K Im ic (some p) st ic:=by
 obtain⟨s,hs,gE,iS,hm⟩:=h.mode aJ;obtain⟨m1,m2,m3,m4⟩:=hm.NK (.inl (by rw[hK];rfl));obtain⟨hd,bK,b,o,x,g',lH,aQ,n',dX⟩:=jI;have fI:Sat ((K ic).view Im) w:=by have:=h.core.sat ic iS;rwa [show bG V Im K ic=(K ic).view Im by simp[bG];omega]at this
 have Jy:=fI.ab b o x (by rw[hK];exact lH);have hb:=fI.Cx (show ((K ic).view Im).ab b o=some x by rw[hK];exact lH);have nI:∀e∈(#[⟨.cell ⟨b,o,none⟩,false,false⟩]:Array Event),e=⟨.cell ⟨b,o,none⟩,false,false⟩:=λe he=>by simpa using he
 have cP:=h.blind gE;refine h.te aJ (k':= .close n') (s':= .got) gE aM (aQ w Jy) (by rw[hd];exact dX) (by rw[hK];exact alS Im) (λ_=>rfl) rfl (λj hj=>by rw[hK]at hj;cases hj) (.inl rfl) (λe he y hy=> .inr (.inr ?_)) (λe he=> ?_) (λe he a=> ?_) rfl (λ_ _ _=>rfl) rfl rfl rfl
  ?_ (.inl m1) ?_ (xP iS (by rw[hK];exact .inl (by simp[GS.da])))
 ·rw[nI e he]at hy;cases hy;refine⟨λee=> ?_, .inr (by rw[hK];show Im b o≠none;rw[lH];simp),rfl⟩;have e1:b=p.Wg:=ee;have:=cP.2.2.2 o;rw[hK]at this;have e2:Im p.Wg o=none:=this;rw[<- e1,lH]at e2;cases e2
 ·rw[nI e he];exact hb
 ·rw[nI e he];simp[Tm]
 ·unfold Mode;have e1:sumTo gs.size (λi=>(upd K ic (.close n') i).cnt)=0:=by rw[lr K (.close n') GS.cnt (by rw[hK];rfl)];exact m4
  have e2:sumTo gs.size (λi=>(upd K ic (.close n') i).late)=0:=by rw[lr K (.close n') GS.late (by rw[hK];rfl)];exact m3
  simp only[e1,e2,bx];exact .inr (.inr (.inr (.inr (.inr (.inl ⟨m1,trivial,trivial,trivial, .inr rfl⟩)))))
 ·have hr:Rest p.Wg t K ic st:=h.out.2.2.1;rw[hs,m2]at hr;exact hr.got
theorem Inv.afD(h:Inv P n0 W0 V gs w t K Im ic (some p) st)(aJ:p.recv=true){n:Nat}{gi:Goroutine}(aM:gs[ic]?=some gi)(hK:K ic= .close n)(jI:Hi P p.c (Deaf t ic) gi):gK P n0 W0 V gs w sl t K Im ic (some p) st ic:=by
 obtain⟨s,hs,gE,iS,hm⟩:=h.mode aJ;obtain⟨⟨nn,m1⟩,m2,m3,m4⟩:=hm.NK (.inr (by rw[hK];rfl));obtain⟨hd,bK,Kd,g',aQ,q,mf⟩:=jI;have lN:=aQ w nn m1;have fP:∀e∈(#[⟨.obj p.c,false,true⟩,⟨.obj p.c,true,true⟩]:Array Event),e=⟨.obj p.c,false,true⟩\/e=⟨.obj p.c,true,true⟩:=λe he=>by simpa using he
 have Kg:∀j,0<j->j<gs.size->j≠ic->(K j).idx=none:=λj _ hj _=>by
  have hle:(K j).cnt<=sumTo gs.size λi=>(K i).cnt:=le_sumTo (f:=λi=>(K i).cnt) hj;exact GS.R3 (by omega)
 have JS:g'.status= .running\/g'.status= .finished:=YN mf;have rc:p.c≠p.Wg:=h.phase.2.2.1;have Jz:=h.low.1;have eu:S8 ic gi.frame.fn gi.frame.place #[⟨.obj p.c,false,true⟩,⟨.obj p.c,true,true⟩]=#[{g:=ic,fn:=gi.frame.fn,pos:=gi.frame.place,act:= .ofEvent ⟨.obj p.c,false,true⟩},{g:=ic,fn:=gi.frame.fn,pos:=gi.frame.place,act:= .close p.c}]:=by simp[S8,Tm]
 have g1:=qU (t:=t) (show (#[({g:=ic,fn:=gi.frame.fn,pos:=gi.frame.place,act:= .ofEvent ⟨.obj p.c,false,true⟩}:MemOp),{g:=ic,fn:=gi.frame.fn,pos:=gi.frame.place,act:= .close p.c}]:Trace)[1]?=some _ from rfl);have nK:∀op∈(#[({g:=ic,fn:=gi.frame.fn,pos:=gi.frame.place,act:= .ofEvent ⟨.obj p.c,false,true⟩}:MemOp),{g:=ic,fn:=gi.frame.fn,pos:=gi.frame.place,act:= .close p.c}]:Trace),still op.act:=by
  intro op au;simp only[Tx,SK,SU,or_false]at au;rcases au with rfl|rfl<;>exact⟨by simp[Tm],by simp[Tm]⟩
 have Qo:∃n,({w with heap:=w.heap.setIfInBounds p.c (.chan 0 #[] true nn nn false)}:World).heap[p.c]?=some (.chan 0 #[] true n n false):=⟨nn,by simp[Jz]⟩;refine h.te aJ (k':= .gone q) (s':= .shut (t.size+1)) gE aM lN (by rw[hd];exact mf) (by rw[hK];exact FW _) (λ_=>rfl) rfl (λj hj=>by rw[hK]at hj;cases hj) (.inl rfl) (λe he x hx=> .inl ?_) (λe he=> ?_) (λe he a=> ?_) (by simp) (λb hb _=>by simp[VI,Ne.symm hb]) rfl rfl rfl
  ?_ (.inr ⟨Kg,λg hg=>anj gE hg Kd JS Qo⟩) ?_ (xP iS (by rw[hK];exact .inl (by simp[GS.da])))
 ·rcases fP e he with rfl|rfl
  ·cases hx;exact⟨rfl,rfl⟩
  ·cases hx
 ·rcases fP e he with rfl|rfl
  ·exact Jz
  ·exact Jz
 ·rcases fP e he with rfl|rfl<;>simp[Tm]
 ·unfold Mode;have e1:sumTo gs.size (λi=>(upd K ic (.gone q) i).cnt)=0:=by rw[lr K (.gone q) GS.cnt (by rw[hK];rfl)];exact m4
  have e2:sumTo gs.size (λi=>(upd K ic (.gone q) i).late)=0:=by rw[lr K (.gone q) GS.late (by rw[hK];rfl)];exact m3
  simp only[e1,e2,bx];obtain⟨n,hn⟩:=Qo;refine .inr (.inr (.inr (.inr (.inr (.inr ⟨⟨t.size+1,n,rfl, ?_, ?_,hn⟩,trivial,trivial,rfl⟩)))))
  ·rw[eu];exact act?_of g1
  ·rw[eu];exact heard_new (k:=1) rfl rfl (by rw[tN nK (by simp)];exact hd)
 ·have hr:Rest p.Wg t K ic st:=h.out.2.2.1;rw[hs,m2]at hr;rw[eu];refine hr.app (λidx a ha hx=> .inr (.inr (Knows.hb_new hx (by omega) g1 rfl))) (λidx a hi ⟨op,au,c9,_⟩ _=> .inr (.inr ?_));have hlt:idx<t.size+2:=by have:=lt_size_of_getElem? c9;simpa using this
  have pj:op.g=ic:=by
   simp only[Tx,SK,SU,or_false]at au;rcases au with rfl|rfl<;>rfl
  exact N1 (g:=ic) (by simp[VQ,c9,pj]) (by simp[VQ,g1]) (by omega)
structure DF (P:Program)(n0:Nat)(W0:World)(V:View)(gs:Array Goroutine)(w:World)(sl:Option (Nat×Nat))(t:Trace)(Im:cz)(ic:Nat)(p:Phase)(st:Option eI)(g:Goroutine)(i:Nat):Prop where
 intro::
 met:∃gs' w' ops K' j sp S v kT Ow,runT P (crowd gs w sl) i=(.next (crowd gs' w' sl),ops)/\gs'.size=gs.size/\kC gs' (TO g (.tuple #[v, .bool true]))/\p.Ss[j]?=some (sp::S)/\sp v kT Ow/\(∀b,V.own b≠none->Ow b=none)/\(∀b o,V.own b≠none->kT b o≠none->V.ab b o≠none)/\
  (∃w,Sat V w/\(∀b o x,kT b o=some x->w.cell? ⟨b,o,none⟩=some x)/\∀b x,Ow b=some x->w.heap[b]?=some x)/\
  Inv P n0 W0 (nO V kT Ow (.recv p.c p.Wg (p.Ss.set j S))) gs' w' (t++ops) K' Im ic (some {p with Ss:=p.Ss.set j S}) st
theorem Inv.apm(h:Inv P n0 W0 V gs w t K Im ic (some p) st)(aJ:p.recv=true)(iO:V.deaf=0){g:Goroutine}(hm:nX gs g p.c){i j:Nat}{gi:Goroutine}{hh h':Ht}{Vi V₁:View}{c Wg:Nat}{sp:Spec}{S:List Spec}{v z:Value}{B:Nat->Bool}(hi:0<i)(aM:gs[i]?=some gi)
  (hK:K i= .work j hh Vi) (hg:ep Vi V₁) (hr:V₁.role= .work c Wg (sp::S)) (hd:V₁.deaf=0) (aQ:stepG P false gi w= .comm gi #[scase c v z] true .send w #[])
  (xB:sp v V₁.ab (lV B V₁)) (hk:lz P h' (lR B V₁ (.work c Wg S)) (TO gi undef)):DF P n0 W0 V gs w sl t Im ic p st g i:=by
 have hlt:i<gs.size:=(SP.1 aM).1;have dh:=h.is i gi hi aM;simp only[hK,GS.is]at dh;obtain⟨bz,_,S',hS,jm⟩:=dh;rw[hg.role,jm]at hr;cases hr;have gX:(K i).cnt=1:=by rw[hK];rfl
 obtain⟨⟨n,gQ⟩,lh⟩:=h.counted hi hlt gX;have e9:(i==0)=false:=by simp;omega
 obtain⟨g0,z0,h0,lc,iR,mO⟩:=hm;have hp:partners (gs.setIfInBounds i ph) p.c false=[(0,0)]:=by
  have Ep:(gs.setIfInBounds i ph)[0]?=some (parked g0 #[rcase p.c z0] (.recv true)):=by rw[SR (by omega)];exact h0
  rw[partners_one Ep (λm x hm hx=> ?_),offersAt_parked_recv]
  ·simp
  ·rcases getElem?_stand gs i m x hx with⟨_,rfl⟩|⟨_,jJ⟩
   ·exact offersAt_ph _ _
   ·exact aaP (h.is m x (by omega) jJ) _
 have bK:=crowd_send_meets (P:=P) (sl:=sl) (i:=i) aM (by rw[e9];exact aQ) gQ (by omega) h0 hp;rw[finishComm_recv,finishComm_send]at bK;have mi:(K i).view Im=Vi:=by rw[hK];rfl
 have aW:((gs.setIfInBounds 0 (TO g0 (recvd true v true))).setIfInBounds i (TO gi undef)).size=gs.size:=by simp
 have aT:Deaf t i=0:=by rw[bz,<- hg.deaf,hd]
 have Ci:Sat V₁ w:=by
  have:=h.core.sat i hlt;rw[show bG V Im K i=(K i).view Im by simp[bG];omega,mi]at this;exact hg.sat w this
 have KB:Sat V w:=by have:=h.core.sat 0 h.pos;rwa [show bG V Im K 0=V by simp[bG]]at this
 have ug:=h.met (gs':=(gs.setIfInBounds 0 (TO g0 (recvd true v true))).setIfInBounds i (TO gi undef)) (w':=w.setChan p.c 0 #[] false (n+1) (n+1) false) (gi:=gi) (h':=h') (V₁:=V₁) (S:=S) (sp:=sp) (B:=B) aJ iO hi hlt (by rw[hK];rfl) (by rw[mi];exact hg) (by rw[hg.role,jm]) hd aT hS hk aW
  (by rw[S7 (by simpa using hlt)]) (λm hm iT=>by rw[SR (Ne.symm hm),SR (by omega)])
  (u:=S8 i gi.frame.fn gi.frame.place #[]++#[{g:=i,fn:=gi.frame.fn,pos:=gi.frame.place,act:= .send p.c n},{g:=0,fn:=g0.frame.fn,pos:=g0.frame.place,act:= .recv p.c n 0},
    {g:=i,fn:=gi.frame.fn,pos:=gi.frame.place,act:= .sendDone p.c n},{g:=0,fn:=g0.frame.fn,pos:=g0.frame.place,act:= .recvDone p.c n}]) (s:=n) (by simp only[S8,Yb,if_true,WK];rfl) ⟨rfl,rfl⟩ ⟨rfl,rfl⟩ ⟨rfl,rfl⟩ ⟨rfl,rfl⟩
  (by simp[VE]) (λb hb=>by simp[VE,VI,Ne.symm hb]) ⟨n+1,by simp[VE,h.low.1]⟩ rfl rfl rfl
 refine⟨_,_,_,_,j,sp,S,v,V₁.ab,lV B V₁,bK,aW,⟨TO g0 (recvd true v true), ?_,rfl, ?_,iR,mO⟩,hS,xB,ug.1,ug.2.1,⟨w,KB,Ci.ab,λb x e=> ?_⟩,ug.2.2⟩
 ·rw[SR (by omega),S7 h.pos]
 ·simp only[TO,lc];rfl
 ·unfold lV at e;split at e
  ·exact Ci.own b x e
  ·cases e
theorem Inv.aou(h:Inv P n0 W0 V gs w t K Im ic (some p) st)(aJ:p.recv=true)(iO:V.deaf=0){g:Goroutine}{z:Value}(hm:kC gs g)(aQ:stepG P true g w= .comm g #[rcase p.c z] true (.recv true) w #[])
  (hw:∃i j h' V₁ V₂ g1 v z1,0<i/\i<gs.size/\K i= .nT j h' V₁ V₂ g1 v z1):DF P n0 W0 V gs w sl t Im ic p st g 0:=by
 obtain⟨g0,h0,hf0,lc,iR,mO⟩:=hm;have lh:stepG P (0==0) g0 w= .comm g #[rcase p.c z] true (.recv true) w #[]:=by rw[<- aQ];exact stepG_same lc iR mO w
 obtain⟨i0,j0,a0,a1,a2,a3,a4,a5,b0,b1,b2⟩:=hw;have ai8:(K i0).cnt=1:=by rw[b2];rfl
 obtain⟨⟨n,gQ⟩,Ft⟩:=h.counted b0 b1 ai8;have sV:gs[i0]?=some gs[i0]:=SJ b1;have fO:∀j k,(j,k)∈partners (gs.setIfInBounds 0 ph) p.c true->k=0/\j≠0/\∃gj vj zj MH,gs[j]?=some (parked gj #[scase p.c vj zj] MH):=by
  intro j k hjk;obtain⟨x,hx,hk⟩:=mem_partners.1 hjk;rcases getElem?_stand gs 0 j x hx with⟨_,rfl⟩|⟨hj0,jJ⟩
  ·rw[offersAt_ph]at hk;cases hk
  ·rcases GS.runs (h.is j x (by omega) jJ)with hr|⟨hf,_⟩|⟨q,h',V1,V2,g1,v,z1,e⟩|⟨_,hb,ho⟩
   ·rw[offersAt_of_not_blocked (by rw[hr];simp)]at hk;cases hk
   ·rw[offersAt_of_not_blocked (by rw[hf];simp)]at hk;cases hk
   ·have:=h.is j x (by omega) jJ;simp only[e,GS.is]at this;obtain⟨_,_,rfl,_⟩:=this;rw[offersAt_parked_send]at hk;simp at hk;exact⟨hk,hj0,g1,v,z1, .send,jJ⟩
   ·have:offersAt x p.c true=[]:=(by unfold offersAt;simp[hb,ho]);rw[this]at hk;cases hk
 have aE:partners (gs.setIfInBounds 0 ph) p.c true≠[]:=by
  intro e;have fP:(i0,0)∈partners (gs.setIfInBounds 0 ph) p.c true:=by
   have:=h.is i0 _ b0 sV;simp only[b2,GS.is]at this;obtain⟨_,_,jk,_⟩:=this;refine mem_partners.2 ⟨gs[i0],by rw[SR (by omega)];exact sV, ?_⟩;rw[jk,offersAt_parked_send];simp
  rw[e]at fP;cases fP
 obtain⟨i,gj,vj,zj,MH,d,e9,aM,bK⟩:=crowd_recv_meets_some (P:=P) (sl:=sl) h0 lh gQ aE fO;have hi:0<i:=by omega
 have hlt:i<gs.size:=(SP.1 aM).1;obtain⟨j,h',V₁,V₂,g1,v,z1,hK⟩:∃j h' V₁ V₂ g1 v z1,K i= .nT j h' V₁ V₂ g1 v z1:=by
  rcases GS.runs (h.is i _ hi aM)with hr|⟨hf,_⟩|x|⟨_,_,ho⟩
  ·cases hr
  ·cases hf
  ·exact x
  ·cases ho
 have dh:=h.is i _ hi aM;simp only[hK,GS.is]at dh;obtain⟨bz,hd,jk,hk,sp,S,B,hS,jm,xB,yQ⟩:=dh;have efr:gj.frame=g1.frame/\gj.callers=g1.callers/\gj.dying=g1.dying/\vj=v/\zj=z1/\MH= .send:=by
  simp only[parked,Zi,Te,UH]at jk;obtain⟨e1,e2,_,e3,e4,e5⟩:=jk;simp[scase]at e4;exact⟨e1,e2,e3,e4.1,e4.2,e5⟩
 obtain⟨e1,e2,e3,rfl,rfl,rfl⟩:=efr;have esv:TO gj undef=TO g1 undef:=by simp[TO,e1,e2,e3]
 rw[finishComm_send,finishComm_recv,esv]at bK;subst yQ;have mi:(K i).view Im=V₁:=by rw[hK];rfl
 have aW:((gs.setIfInBounds i (TO g1 undef)).setIfInBounds 0 (TO g (recvd true vj true))).size=gs.size:=by simp
 have Ci:Sat V₁ w:=by
  have:=h.core.sat i hlt;rwa [show bG V Im K i=(K i).view Im by simp[bG];omega,mi]at this
 have KB:Sat V w:=by have:=h.core.sat 0 h.pos;rwa [show bG V Im K 0=V by simp[bG]]at this
 have ug:=h.met (gs':=(gs.setIfInBounds i (TO g1 undef)).setIfInBounds 0 (TO g (recvd true vj true))) (w':=(w.at d).setChan p.c 0 #[] false (n+1) (n+1) false) (gi:=g1) (h':=h') (V₁:=V₁) (S:=S) (sp:=sp) (B:=B) aJ iO hi hlt (by rw[hK];rfl) (by rw[mi];exact ep.refl _) jm hd bz hS hk aW
  (by rw[SR (by omega),S7 hlt]) (λm hm iT=>by rw[SR (by omega),SR (Ne.symm hm)])
  (u:=S8 0 g0.frame.fn g0.frame.place #[]++#[{g:=i,fn:=gj.frame.fn,pos:=gj.frame.place,act:= .send p.c n},{g:=0,fn:=g.frame.fn,pos:=g.frame.place,act:= .recv p.c n 0},
    {g:=i,fn:=gj.frame.fn,pos:=gj.frame.place,act:= .sendDone p.c n},{g:=0,fn:=g.frame.fn,pos:=g.frame.place,act:= .recvDone p.c n}]) (s:=n) (by simp only[S8,Yb,if_true,WK];rfl) ⟨rfl,rfl⟩ ⟨rfl,rfl⟩ ⟨rfl,rfl⟩ ⟨rfl,rfl⟩
  (by simp[VE,World.at]) (λb hb=>by simp[VE,World.at,VI,Ne.symm hb]) ⟨n+1,by simp[VE,World.at,h.low.1]⟩ rfl rfl rfl
 refine⟨_,_,_,_,j,sp,S,vj,V₁.ab,lV B V₁,bK,aW,⟨TO g (recvd true vj true), ?_,rfl,rfl,rfl,rfl⟩,hS,xB,ug.1,ug.2.1,⟨w,KB,Ci.ab,λb x e=> ?_⟩,ug.2.2⟩
 ·rw[S7 (by simpa using h.pos)]
 ·unfold lV at e;split at e
  ·exact Ci.own b x e
  ·cases e
end
section
variable {P:Program}{n0:Nat}{W0:World}{V:View}{gs gs':Array Goroutine}{w w':World}{sl:Option (Nat×Nat)}{t:Trace}{K:Nat->GS}{Im:cz}{ic:Nat}{ph:Option Phase}{p:Phase}{st st':Option eI}
theorem Inv.tg(h:Inv P n0 W0 V gs w t K Im ic (some p) st){i n:Nat}{gi:Goroutine}{Stop:Nat->Goroutine->Prop}{mk:Nat->GS}(hi:0<i)(aM:gs[i]?=some gi)(hK:K i=mk n)(dX:cR P Stop n (Deaf t i) gi)
  (rn:∀n d g,cR P Stop n d g->(mk n).is P p.c p.Wg Im p.Ss d g) (ee:∀n m,(mk n).shape=(mk m).shape) (KN:∀n m,(mk n).view Im=(mk m).view Im) (Kz:∀n,qH (mk n).da (mk (n+1)).da) (zv:∀d g,Stop d g->g.status= .running)
  (hgo:Stop (Deaf t i) gi->gK P n0 W0 V gs w sl t K Im ic (some p) st i):gK P n0 W0 V gs w sl t K Im ic (some p) st i:=by
 cases n with
 |zero=>exact hgo dX
 |succ n=>
  rcases dX with hs|⟨hr,g',es,hm,aQ,hs⟩
  ·exact hgo hs
  ·exact h.slip (k':=mk n) hi aM (aQ w) hm (rn _ _ _ hs) (λx=>by rw[cR.running zv hs]at x;cases x) (by rw[hK];exact ee _ _) (by rw[hK];exact KN _ _) (λ_=>cR.running zv hs) (by rw[hK];exact Kz n)
theorem Inv.abV(h:Inv P n0 W0 V gs w t K Im ic (some p) st){i n:Nat}{gi:Goroutine}{Stop:Nat->Goroutine->Prop}{mk:Nat->GS}(hi:0<i)(aM:gs[i]?=some gi)(hK:K i=mk n)(hW:∃x y,WgAt P p.Wg w x y)(dX:ig P p.Wg Stop n (Deaf t i) gi)
  (rn:∀n d g,ig P p.Wg Stop n d g->(mk n).is P p.c p.Wg Im p.Ss d g) (ee:∀n m,(mk n).shape=(mk m).shape) (KN:∀n m,(mk n).view Im=(mk m).view Im) (Kz:∀n,qH (mk n).da (mk (n+1)).da) (zv:∀d g,Stop d g->g.status= .running)
  (hgo:Stop (Deaf t i) gi->gK P n0 W0 V gs w sl t K Im ic (some p) st i):gK P n0 W0 V gs w sl t K Im ic (some p) st i:=by
 cases n with
 |zero=>exact hgo dX
 |succ n=>
  rcases dX with hs|⟨hr,g',es,hm,aQ,hs⟩
  ·exact hgo hs
  ·exact h.slip (k':=mk n) hi aM (aQ w _ _ hW.choose_spec.choose_spec) hm (rn _ _ _ hs) (λx=>by rw[ig.running zv hs]at x;cases x) (by rw[hK];exact ee _ _) (by rw[hK];exact KN _ _) (λ_=>ig.running zv hs) (by rw[hK];exact Kz n)
theorem Inv.other(h:Inv P n0 W0 V gs w t K Im ic ph st){g:Goroutine}(pf:kC gs g\/∃p,ph=some p/\p.recv=true/\V.deaf=0/\nX gs g p.c){i:Nat}{gi:Goroutine}(hi:0<i)(aM:gs[i]?=some gi)(bK:gi.status= .running):
  gK P n0 W0 V gs w sl t K Im ic ph st i\/∃p,ph=some p/\DF P n0 W0 V gs w sl t Im ic p st g i/\nX gs g p.c:=by
 have hlt:i<gs.size:=(SP.1 aM).1;have dh:=h.out.1 i gi hi aM;have gone:∀q,K i= .gone q->QuitsD P q (Deaf t i) gi->gK P n0 W0 V gs w sl t K Im ic ph st i:=by
  intro q hK hq;cases q with
  |zero=>rw[hq.1]at bK;cases bK
  |succ q=>
   rcases hq with⟨hf,_⟩|⟨_,g',es,hm,aQ,sR⟩
   ·rw[hf]at bK;cases bK
   ·refine h.slip (k':= .gone q) hi aM (aQ w) hm ?_ (λx=>by rcases sR.status with e|e<;>rw[e]at x<;>cases x) (by rw[hK];rfl) (by rw[hK];rfl) (λx=>by rw[hK]at x;rcases x with x|x<;>cases x) (by rw[hK];exact .inr ⟨rfl, .inr ⟨rfl,Ug _⟩⟩);cases ph with
    |none=>exact⟨q,rfl,sR⟩
    |some p=>exact sR
 cases ph with
 |none=>
  obtain⟨q,hK,hq⟩:=dh;exact .inl (gone q hK hq)
 |some p=>
  have fq:(K i).is P p.c p.Wg Im p.Ss (Deaf t i) gi:=dh;have qe:(K i).idx=none->(∀q,K i≠ .gone q)->p.recv=true:=λh1 h2=>by
   cases aJ:p.recv with
   |true=>rfl
   |false=>
    have hx:=h.phase.2.2.2.2.2.2.2.2.2;rw[if_neg (by rw[aJ];simp)]at hx;rcases hx.2.2.2.1 i hi hlt with x|⟨q,x⟩
    ·rw[h1]at x;cases x
    ·exact absurd x (h2 q)
  cases hK:K i with
  |gone q=>rw[hK]at fq;exact .inl (gone q hK fq)
  |nT j h' V1 V2 g0 v z=>
   rw[hK]at fq;obtain⟨_,_,rfl,_⟩:=fq;cases bK
  |work j hh Vi=>
   rw[hK]at fq;obtain⟨hd,KO,S,hS,jm⟩:=fq;have mi:bG V Im K i=Vi:=(by simp[bG,hK,GS.view];omega);have fI:Sat Vi w:=(by have:=h.core.sat i hlt;rwa [mi]at this);cases KO with
   |step G' W' E' V' hs hg h1 h2 h3=>
    exact .inl (h.acS hi aM hK (h1 w (hg.sat w fI)) (dg.rJ hg (h2 w (hg.sat w fI))) (h3 w (hg.sat w fI)) (.mk _ w))
   |send c Wg sp S1 v z B hs hg hr cZ ho h1 h2 h3=>
    have er:m_.work p.c p.Wg S= .work c Wg (sp::S1):=(by rw[<- jm,<- hg.role,hr]);cases er;rcases pf with hm|⟨p',zo,aJ,iO,hm⟩
    ·exact .inl (h.arj hm hi aM hK hg hr cZ (h1 w (hg.sat w fI)) h2 h3)
    ·cases zo;exact .inr ⟨p,rfl,h.apm aJ iO hm hi aM hK hg hr cZ (h1 w (hg.sat w fI)) h2 h3,hm⟩
   |done c Wg hg hr cZ h1=>
    have er:m_.work p.c p.Wg S= .work c Wg []:=(by rw[<- jm,<- hg.role,hr]);cases er;refine .inl (h.release ?_ hi aM hK hg hr cZ h1);cases aJ:p.recv with
    |true=>rfl
    |false=>
     have hx:=h.phase.2.2.2.2.2.2.2.2.2;rw[if_neg (by rw[aJ];simp)]at hx;exact absurd rfl (hx.2.2.2.2.1 [] (S_ hS))
   |slip c Wg hs hg hr h1 h3=>
    have er:m_.work p.c p.Wg S= .work c Wg []:=(by rw[<- jm,<- hg.role,hr]);cases er;have aJ:p.recv=true:=by
     cases aJ:p.recv with
     |true=>rfl
     |false=>
      have hx:=h.phase.2.2.2.2.2.2.2.2.2;rw[if_neg (by rw[aJ];simp)]at hx;exact absurd rfl (hx.2.2.2.2.1 [] (S_ hS))
    obtain⟨s,hW⟩:=h.afJ aJ hlt (by rw[hK];rfl);exact .inl (h.acS hi aM hK (h1 w s (hg.sat w fI) hW) (dg.rJ hg (dg.idle (hg.sat w fI))) h3 (Az.mk (λ_=>_) w))
  |add n=>
   rw[hK]at fq;have aJ:=qe (by rw[hK];rfl) (λq=>by rw[hK];simp);exact .inl (h.tg (mk:= .add) hi aM hK fq (λ_ _ _ x=>x) (λ_ _=>rfl) (λ_ _=>rfl) (λn=> .inr ⟨rfl, .inr ⟨rfl,Ug _⟩⟩) (λ_ _ x=>x.2.1) (λhs=>h.ad2 aJ hi aM hK hs))
  |load n=>
   rw[hK]at fq;have aJ:=qe (by rw[hK];rfl) (λq=>by rw[hK];simp);exact .inl (h.tg (mk:= .load) hi aM hK fq (λ_ _ _ x=>x) (λ_ _=>rfl) (λ_ _=>rfl) (λn=> .inr ⟨rfl, .inr ⟨rfl,Ug _⟩⟩) (λ_ _ x=>x.2.1) (λhs=>h.al6 aJ hi aM hK hs))
  |store n=>
   rw[hK]at fq;have aJ:=qe (by rw[hK];rfl) (λq=>by rw[hK];simp);exact .inl (h.tg (mk:= .store) hi aM hK fq (λ_ _ _ x=>x) (λ_ _=>rfl) (λ_ _=>rfl) (λn=> .inr ⟨rfl, .inr ⟨rfl,Ug _⟩⟩) (λ_ _ x=>x.2.1) (λhs=>h.ap9 aJ hi aM hK hs))
  |mw n=>
   rw[hK]at fq;have aJ:=qe (by rw[hK];rfl) (λq=>by rw[hK];simp);exact .inl (h.tg (mk:= .mw) hi aM hK fq (λ_ _ _ x=>x) (λ_ _=>rfl) (λ_ _=>rfl) (λn=> .inr ⟨rfl, .inr ⟨rfl,Ug _⟩⟩) (λ_ _ x=>x.2.1) (λhs=>h.apl aJ hi aM hK hs))
  |head k n=>
   rw[hK]at fq;have aJ:=qe (by rw[hK];rfl) (λq=>by rw[hK];simp);have gf:i=ic:=h.rQ hi (by rw[hK];rfl);exact .inl (h.tg (mk:= .head k) hi aM hK fq (λ_ _ _ x=>x) (λ_ _=>rfl) (λ_ _=>rfl) (λn=> .inr ⟨rfl, .inr ⟨rfl,Ug _⟩⟩) (λ_ _ x=>Qx x) (λhs=>by subst gf;exact h.aju aJ aM hK hs))
  |l9 v n=>
   rw[hK]at fq;have aJ:=qe (by rw[hK];rfl) (λq=>by rw[hK];simp);have gf:i=ic:=h.rQ hi (by rw[hK];rfl);exact .inl (h.tg (mk:= .l9 v) hi aM hK fq (λ_ _ _ x=>x) (λ_ _=>rfl) (λ_ _=>rfl) (λn=> .inr ⟨rfl, .inr ⟨rfl,Ug _⟩⟩) (λ_ _ x=>x.2.1) (λhs=>by subst gf;exact h.afy aJ aM hK hs))
  |said n=>
   rw[hK]at fq;have aJ:=qe (by rw[hK];rfl) (λq=>by rw[hK];simp);have gf:i=ic:=h.rQ hi (by rw[hK];rfl);exact .inl (h.abV (mk:= .said) hi aM hK (h.NB aJ (n:=n) (.inr (by rw[<- gf];exact hK))) fq (λ_ _ _ x=>x) (λ_ _=>rfl) (λ_ _=>rfl) (λn=> .inr ⟨rfl, .inr ⟨rfl,Ug _⟩⟩) (λ_ _ x=>x.2.1) (λhs=>by subst gf;exact h.ao2 aJ aM hK hs))
  |ij n=>
   rw[hK]at fq;have aJ:=qe (by rw[hK];rfl) (λq=>by rw[hK];simp);have gf:i=ic:=h.rQ hi (by rw[hK];rfl);rcases fq with fq|⟨_,g1,rfl,_⟩
   ·exact .inl (h.tg (mk:= .ij) hi aM hK fq (λ_ _ _ x=> .inl x) (λ_ _=>rfl) (λ_ _=>rfl) (λn=> .inr ⟨rfl, .inr ⟨rfl,Ug _⟩⟩) (λ_ _ x=>x.2.1) (λhs=>by subst gf;exact h.afK aJ aM hK hs))
   ·cases bK
  |last n=>
   rw[hK]at fq;have aJ:=qe (by rw[hK];rfl) (λq=>by rw[hK];simp);have gf:i=ic:=h.rQ hi (by rw[hK];rfl);exact .inl (h.tg (mk:= .last) hi aM hK fq (λ_ _ _ x=>x) (λ_ _=>rfl) (λ_ _=>rfl) (λn=> .inr ⟨rfl, .inr ⟨rfl,Ug _⟩⟩) (λ_ _ x=>x.2.1) (λhs=>by subst gf;exact h.alq aJ aM hK hs))
  |acq n=>
   rw[hK]at fq;have aJ:=qe (by rw[hK];rfl) (λq=>by rw[hK];simp);have gf:i=ic:=h.rQ hi (by rw[hK];rfl);exact .inl (h.abV (mk:= .acq) hi aM hK (h.NB aJ (n:=n) (.inl (by rw[<- gf];exact hK))) fq (λ_ _ _ x=>x) (λ_ _=>rfl) (λ_ _=>rfl) (λn=> .inr ⟨rfl, .inr ⟨rfl,Ug _⟩⟩) (λ_ _ x=>x.2.1) (λhs=>by subst gf;exact h.adX aJ aM hK hs))
  |look n=>
   rw[hK]at fq;have aJ:=qe (by rw[hK];rfl) (λq=>by rw[hK];simp);have gf:i=ic:=h.rQ hi (by rw[hK];rfl);exact .inl (h.tg (mk:= .look) hi aM hK fq (λ_ _ _ x=>x) (λ_ _=>rfl) (λ_ _=>rfl) (λn=> .inr ⟨rfl, .inr ⟨rfl,Ug _⟩⟩) (λ_ _ x=>x.2.1) (λhs=>by subst gf;exact h.al7 aJ aM hK hs))
  |close n=>
   rw[hK]at fq;have aJ:=qe (by rw[hK];rfl) (λq=>by rw[hK];simp);have gf:i=ic:=h.rQ hi (by rw[hK];rfl);exact .inl (h.tg (mk:= .close) hi aM hK fq (λ_ _ _ x=>x) (λ_ _=>rfl) (λ_ _=>rfl) (λn=> .inr ⟨rfl, .inr ⟨rfl,Ug _⟩⟩) (λ_ _ x=>x.2.1) (λhs=>by subst gf;exact h.afD aJ aM hK hs))
theorem Inv.awake(h:Inv P n0 W0 V gs w t K Im ic ph st){g:Goroutine}(pf:kC gs g\/∃p,ph=some p/\p.recv=true/\V.deaf=0/\nX gs g p.c):∀x∈gs,awake x:=by
 intro x hx;obtain⟨i,hi⟩:=XS.1 hx;rcases UF i with rfl|e9
 ·rcases pf with⟨g0,h0,h1,_⟩|⟨p,_,_,_,g0,z,h0,_⟩
  ·rw[hi]at h0;cases h0;intro s;rw[h1];simp
  ·rw[hi]at h0;cases h0;intro s;simp[parked]
 ·have dh:=h.out.1 i x e9 hi;intro s;cases ph with
  |none=>
   obtain⟨q,_,hq⟩:=dh;rcases hq.status with e|e<;>rw[e]<;>simp
  |some p=>
   rcases GS.runs (show (K i).is P p.c p.Wg Im p.Ss (Deaf t i) x from dh)with e|⟨e,_⟩|⟨j,h',V1,V2,g1,v,z,e⟩|⟨_,e,_⟩
   ·rw[e];simp
   ·rw[e];simp
   ·have fq:(K i).is P p.c p.Wg Im p.Ss (Deaf t i) x:=dh;rw[e]at fq;obtain⟨_,_,rfl,_⟩:=fq;simp[parked]
   ·rw[e];simp
end
def Ok (P:Program)(Post:Value->World->Prop)(m:Machine)(t:Trace):Prop:=
 ∃M last o w' t',runNT P (M+1) m t=(.ended o w',t')/\runN P M m= .next last/\step P last= .ended o w'/\Wm P Post last o w' t'
section
variable {P:Program}{Post:Value->World->Prop}
theorem Ok.step{m m':Machine}{t:Trace}{ops:Array MemOp}(hs:stepT P m=(.next m',ops))(h:Ok P Post m' (t++ops)):Ok P Post m t:=by
 obtain⟨M,last,o,w',t',h1,h2,h3,h4⟩:=h;refine⟨M+1,last,o,w',t', ?_, ?_,h3,h4⟩
 ·rw[runNT,hs];exact h1
 ·have:Zf P m= .next m':=by unfold Zf;rw[hs]
  rw[runN,this];exact h2
theorem Ok.end{m:Machine}{t:Trace}{o:Outcome}{w':World}{ops:Array MemOp}(hs:stepT P m=(.ended o w',ops))(h:Wm P Post m o w' (t++ops)):Ok P Post m t:=by
 refine⟨0,m,o,w',t++ops, ?_,rfl, ?_,h⟩
 ·simp[runNT,hs]
 ·unfold Zf;rw[hs]
end
section
variable {P:Program}{n0:Nat}{W0:World}{V:View}{gs gs':Array Goroutine}{w w':World}{sl:Option (Nat×Nat)}{t:Trace}{K:Nat->GS}{Im:cz}{ic:Nat}{ph:Option Phase}{p:Phase}{st st':Option eI}
theorem Inv.draw(h:Inv P n0 W0 V gs w t K Im ic ph st)(d:Nat):Inv P n0 W0 V gs (w.at d) t K Im ic ph st:=
 let⟨a,b,c,e⟩:=h.out
 Inv.mk' h.pos h.k0 h.d0 a (b.draw d) c (by cases ph<;>exact e)
theorem MO{f:Nat->Nat}:∀{N:Nat},0<sumTo N f->∃i,i<N/\0<f i
 |0,h=>by simp[sumTo]at h
 |N+1,h=>by
  by_cases hN:0<f N
  ·exact⟨N,by omega,hN⟩
  ·obtain⟨i,hi,hf⟩:=MO (N:=N) (f:=f) (by rw[sumTo]at h;omega);exact⟨i,by omega,hf⟩
theorem Inv.apx(h:Inv P n0 W0 V gs w t K Im ic (some p) st)(aJ:p.recv=true)(ho:ym w p.c)(sF:Calm gs):∃i gi,0<i/\gs[i]?=some gi/\gi.status= .running:=by
 obtain⟨s,hs,gE,iS,hm⟩:=h.mode aJ;have h0:=h.k0;have Bq:gs[ic]?=some gs[ic]:=SJ iS;have asw:(K ic).is P p.c p.Wg Im p.Ss (Deaf t ic) gs[ic]:=h.is ic _ gE Bq;have run:∀i x,0<i->gs[i]?=some x->(∀q,K i≠ .gone q)->(∀n,K i≠ .ij n)->x.status= .running:=by
  intro i x hi hx h1 h2;rcases GS.runs (show (K i).is P p.c p.Wg Im p.Ss (Deaf t i) x from h.is i x hi hx)with e|⟨_,q,e⟩|⟨j,h',V1,V2,g1,v,z,e⟩|⟨⟨n,e⟩,_⟩
  ·exact e
  ·exact absurd e (h1 q)
  ·have cF:=h.is i x hi hx;simp only[e,GS.is]at cF;obtain⟨_,_,jk,_⟩:=cF;have:=sF i x hi hx (by rw[jk];rfl);rw[jk]at this;cases this
  ·exact absurd e (h2 n)
 have KW:(∀q,K ic≠ .gone q)->(∀n,K ic≠ .ij n)->∃i gi,0<i/\gs[i]?=some gi/\gi.status= .running:=λa b=>⟨ic,_,gE,Bq,run ic _ gE Bq a b⟩;have other:∀i,i<gs.size->(K i).cnt=1\/(K i).late=1->∃i gi,0<i/\gs[i]?=some gi/\gi.status= .running:=by
  intro i hi hc;have e9:0<i:=by
   rcases UF i with rfl|x
   ·rw[h0]at hc;rcases hc with c|c<;>cases c
   ·exact x
  exact⟨i,_,e9,SJ hi,run i _ e9 (SJ hi) (λq e=>by rw[e]at hc;rcases hc with c|c<;>cases c) (λq e=>by rw[e]at hc;rcases hc with c|c<;>cases c)⟩
 have one:∀i,0<(K i).cnt->(K i).cnt=1:=λi hi=>by cases e:K i<;>rw[e]at hi<;>first|rfl|exact absurd hi (by simp[GS.cnt])
 have am3:∀i,0<(K i).late->(K i).late=1:=λi hi=>by cases e:K i<;>rw[e]at hi<;>first|rfl|exact absurd hi (by simp[GS.late])
 unfold Mode at hm;rcases hm with m|m|m|m|m|m|m
 ·rcases m.2.2.2.2.2 with⟨k,e,_⟩|⟨v,e,_⟩<;>exact KW (λq x=>by rw[x]at e;cases e) (λq x=>by rw[x]at e;cases e)
 ·obtain⟨i,hi,hc⟩:=MO (N:=gs.size) (f:=λi=>(K i).cnt) (by have:=m.2.2.2.1;omega);exact other i hi (.inl (one i hc))
 ·obtain⟨i,hi,hc⟩:=MO (N:=gs.size) (f:=λi=>(K i).late) (by have:=m.2.2.1;omega);exact other i hi (.inr (am3 i hc))
 ·exact⟨ic,_,gE,Bq,m.2.2.2.2.2.1 _ Bq⟩
 ·rcases m.2.2.2.2.2 with e|e<;>exact KW (λq x=>by rw[x]at e;cases e) (λq x=>by rw[x]at e;cases e)
 ·rcases m.2.2.2.2 with e|e<;>exact KW (λq x=>by rw[x]at e;cases e) (λq x=>by rw[x]at e;cases e)
 ·obtain⟨⟨_,n,_,_,_,aX⟩,_⟩:=m;obtain⟨n',ho⟩:=ho;rw[aX]at ho;simp at ho
theorem rU(V':View)(Im:cz)(K:Nat->GS):bG V' Im K=upd (bG V Im K) 0 V':=by
 funext j;by_cases hj:j=0
 ·subst hj;rw[bx];simp[bG]
 ·rw[aZ _ _ hj];simp[bG,hj]
theorem kR:bG V Im K 0=V:=by simp[bG]
def uT (r:m_)(ph:Option Phase):Prop:=match r with
 | .plain=>ph=none
 | .fork c Wg Ss=>ph=some ⟨c,Wg,Ss,false⟩
 | .recv c Wg Ss=>ph=some ⟨c,Wg,Ss,true⟩
 | .work .. =>False
theorem Inv.amh(h:Inv P n0 W0 V gs w t K Im ic ph st){V':View}(g:ep V V')(hr:uT V.role ph):Inv P n0 W0 V' gs w t K Im ic ph st:=by
 obtain⟨dh,hc,mQ,gR⟩:=h.out;refine Inv.mk' h.pos h.k0 (by rw[g.deaf];exact h.d0) dh ?_ mQ ?_
 ·rw[rU (V:=V)];exact hc.ghost h.pos (by rw[kR];exact g)
 ·cases ph with
  |none=>exact gR
  |some p=>
   obtain⟨a1,a2,a3,a4,a5,a6,a7,a8,a9,bS⟩:=gR;refine⟨a1,a2,a3,a4,a5,a6,a7,a8,a9, ?_⟩;split
   ·rename_i aJ;rw[if_pos aJ]at bS;have b:jy p V:=⟨bS.1.1,bS.1.2.1,bS.1.2.2.1,bS.1.2.2.2⟩;have b':=b.ghost g;exact⟨⟨b'.1,b'.2.1,b'.2.2.1,b'.2.2.2⟩,bS.2⟩
   ·rename_i aJ;rw[if_neg aJ]at bS;refine⟨g.chan _ _ ?_ bS.1,bS.2⟩;unfold uT at hr;split at hr
    ·cases hr
    ·cases hr;rename_i e;rw[e];rfl
    ·cases hr;exact absurd rfl aJ
    ·exact hr.elim
theorem Inv.aam(h:Inv P n0 W0 V gs w t K Im ic ph st){g0 g':Goroutine}{es:Array Event}{V':View}(h0:gs[0]?=some g0)(s:dg V w V' w' es)(hr:uT V.role ph):
  Inv P n0 W0 V' ((gs.map (woken P g0 g' w')).setIfInBounds 0 g') w' (t++S8 0 g0.frame.fn g0.frame.place es) K Im ic ph st:=by
 obtain⟨dh,hc,mQ,gR⟩:=h.out;have aW:((gs.map (woken P g0 g' w')).setIfInBounds 0 g').size=gs.size:=by simp
 have Cj:∀op∈S8 0 g0.frame.fn g0.frame.place es,op.g=0:=λop au=>by obtain⟨e,_,rfl⟩:=TB au;rfl
 have jj:∀{u:Trace}{idx:Nat}{op:MemOp},(t++u)[idx]?=some op->op.g=0->Knows (t++u) 0 idx:=λ{u idx op} a b=>by have:=knows_own a;rwa [b]at this
 have Qn:∀p,ph=some p->w'.heap[p.c]?=w.heap[p.c]?:=by
  rintro p rfl
  obtain⟨a1,a2,a3,a4,a5,a6,a7,a8,a9,bS⟩:=gR;by_cases aJ:p.recv=true
  ·rw[if_pos aJ]at bS;exact s.frame _ a4 bS.1.1
  ·rw[if_neg aJ]at bS;have dV:Sat V w:=(by have:=hc.sat 0 h.pos;rwa [kR]at this);have fi:V.role.chan=some p.c:=by
    unfold uT at hr;split at hr
    ·cases hr
    ·cases hr;rename_i e;rw[e];rfl
    ·cases hr;exact absurd rfl aJ
    ·exact hr.elim
   rw[s.sat.own _ _ (s.chan _ _ fi bS.1),dV.own _ _ bS.1]
 refine Inv.mk' (by rw[aW];exact h.pos) h.k0 (by rw[Deaf_own,s.deaf,h.d0]) (λj x hj hx=> ?_) ?_ ?_ ?_
 ·rcases getElem?_next h.pos hx with⟨e,_⟩|⟨_,y,hy,rfl⟩
  ·omega
  ·rw[Deaf_other t (g:=j) (g':=0) (by omega) _ Cj];have Cr:=dh j y hj hy;have J5:j<gs.size:=(SP.1 hy).1;cases ph with
   |none=>
    obtain⟨q,hq,mj⟩:=Cr;exact⟨q,hq,by rw[woken_quitsD mj];exact mj⟩
   |some p=>
    refine R_ ?_ Cr;rcases h.opens rfl with⟨n,x⟩|x
    ·exact .inl ⟨n,by rw[Qn p rfl];exact x⟩
    ·exact .inr (x.1 j hj J5)
 ·rw[aW,rU (V:=V)];refine hc.step h.pos (by rw[kR];exact s) (λe he x hx hs=> ?_) g0.frame.fn g0.frame.place;cases ph with
  |none=>exact hs.elim
  |some p=>
   obtain⟨a1,a2,a3,a4,a5,a6,a7,a8,a9,bS⟩:=gR;have pV:=Ix (s.fx e he) hx;by_cases aJ:p.recv=true
   ·exfalso;rw[if_pos aJ]at bS;have b:jy p V:=⟨bS.1.1,bS.1.2.1,bS.1.2.2.1,bS.1.2.2.2⟩;rcases pV.1 with y|⟨y,_⟩|y
    ·exact b.zN y.rd hs
    ·exact b.zN y hs
    ·exact y (abP a4 a5 hs)
   ·rw[if_neg aJ]at bS;have jm:V.role.chan=some p.c/\V.role.group=some p.Wg:=by
     unfold uT at hr;split at hr
     ·cases hr
     ·cases hr;rename_i e;rw[e];exact⟨rfl,rfl⟩
     ·cases hr;exact absurd rfl aJ
     ·exact hr.elim
    have kg:nd (some p) gs.size ic K 0:=by
     show jb p gs.size ic K 0;unfold jb;rw[if_neg aJ];exact .inl rfl
    have B_:x.kind≠ .plain:=by
     intro hk;cases hl:x.loc with
     |cell a=>rw[hl]at hs;exact pV.2.2 _ a jm.2 hl hs hk
     |obj r=>rw[hl]at hs;exact pV.2.1 _ jm.1 (by rw[hl];exact congrArg _ hs)
     |_=>rw[hl]at hs;exact hs.elim
    cases hk:x.kind with
    |plain=>exact absurd hk B_
    |atomic=>exact .inl ⟨rfl,kg⟩
    |said=>exact .inr ⟨rfl,bS.2.1.symm,kg⟩
 ·have vQ:∀idx a,t.size<=idx->(∃op∈S8 0 g0.frame.fn g0.frame.place es,(t++S8 0 g0.frame.fn g0.frame.place es)[idx]?=some op/\op.act.touch?=some a)->Knows (t++S8 0 g0.frame.fn g0.frame.place es) 0 idx:=λidx a _ ⟨op,au,hi,_⟩=>jj hi (Cj op au);cases st with
  |none=>
   intro idx a ha hm;rcases Ak ha with gC|⟨hi,x⟩
   ·obtain⟨op,au,_⟩:=touch_of gC;rcases mQ idx a gC hm with x|⟨x,y⟩|⟨_,z,_⟩
    ·exact .inl (x.app _)
    ·exact .inr (.inl ⟨x,λz=>y ((heard_old (lt_size_of_getElem? au)).1 z)⟩)
    ·cases z
   ·exact .inl (vQ idx a hi x)
  |some s'=>
   exact mQ.app (λidx a ha hx=> .inr (hx.app (by obtain⟨op,au,_⟩:=touch_of ha;exact lt_size_of_getElem? au) λj _ _ hj=> .inl hj)) (λidx a hi x _=> .inl (vQ idx a hi x))
 ·cases ph with
  |none=>exact gR
  |some p=>
   obtain⟨a1,a2,a3,a4,a5,a6,a7,a8,a9,bS⟩:=gR;refine⟨a1,a2,a3,Ta a4 s.size,Ta a5 s.size,a6,a7,λj j' m b1 b2 b3 b4=>a8 j j' m b1 (aW▸b2) b3 (aW▸b4),λj S b1 b2=>by rw[aW];exact a9 j S b1 b2, ?_⟩;split
   ·rename_i aJ;rw[if_pos aJ]at bS;obtain⟨c1,c2,c3,s',c4,c5⟩:=bS;have b:jy p V:=⟨c1.1,c1.2.1,c1.2.2.1,c1.2.2.2⟩;have b':=b.step s a4 a5;refine⟨⟨b'.1,b'.2.1,b'.2.2.1,b'.2.2.2⟩,c2,by rw[aW];exact c3,s',c4, ?_⟩;rw[aW];refine c5.keep (λ_=>rfl) (Qn p rfl) (s.frame _ a5 b.2.2.1) λru g hg=> ?_;rcases getElem?_next h.pos hg with⟨e,_⟩|⟨_,y,hy,rfl⟩
    ·omega
    ·rw[woken_run (ru y hy)];exact ru y hy
   ·rename_i aJ;rw[if_neg aJ]at bS;have fi:V.role.chan=some p.c:=by
     unfold uT at hr;split at hr
     ·cases hr
     ·cases hr;rename_i e;rw[e];rfl
     ·cases hr;exact absurd rfl aJ
     ·exact hr.elim
    exact⟨s.chan _ _ fi bS.1,bS.2.1,bS.2.2.1,by rw[aW];exact bS.2.2.2.1,bS.2.2.2.2.1,by rw[aW];exact bS.2.2.2.2.2⟩
end
theorem acE{x y:MemOp}{k:Nat}(hx:x.act= .go k)(hy:y.act= .start):∀op∈(#[x,y]:Trace),op.act.touch?=none/\still op.act/\(∀B,op.act.low B)/\∀a,op.act≠ .mark (.release a):=by
 intro op au;simp only[Tx,SK,SU,or_false]at au;rcases au with rfl|rfl
 ·rw[hx];exact⟨rfl,⟨by simp,by simp⟩,λ_=>trivial,by simp⟩
 ·rw[hy];exact⟨rfl,⟨by simp,by simp⟩,λ_=>trivial,by simp⟩
theorem Ov{t:Trace}{N:Nat}(h:∀op∈t,op.g<N):Deaf t N=0:=by
 have key:∀k,k<=t.size->t.deaf N k=0:=by
  intro k;induction k with
  |zero=>intro _;rfl
  |succ k ih=>
   intro hk;have hy:t[k]?=some t[k]:=SJ (by omega);have aE:¬t[k].g=N:=(by have:=h t[k] (Xd _);omega);rw[deaf_succ hy,ih (by omega)];unfold deafStep;split<;>simp[aE]
 exact key _ (SO _)
section
variable {VV:Nat->View}{N:Nat}{w:World}{t:Trace}{Sh:Loc->Prop}{act act':Nat->Prop}{ic kK n0:Nat}{W0:World}
theorem Core.spawn(h:Core VV N w t Sh act ic n0 W0)(h0:0<N)(aT:Deaf t 0=0){x y:MemOp}(hx:x.g=0/\x.act= .go N)(hy:y.g=N/\y.act= .start){U:View}(hi:U.ab=(VV 0).ab)(ho:U.own=λ_=>none)
  (kg:∀i,act' i->act i\/(i=N/\act 0)) (gf:kK=ic\/(kK=N/\ic=0)):Core (upd VV N U) (N+1) w (t++#[x,y]) Sh act' kK n0 W0:=by
 have jH:=acE hx.2 hy.2;have hdN:Deaf t N=0:=Ov h.ti.gs;have hk:∀{idx},Knows t 0 idx->Knows (t++#[x,y]) N idx:=λ{idx} jJ=>fork_knows hx hy aT hdN jJ;have hsU:Sat U w:=⟨λb o v e=>(h.sat 0 h0).ab b o v (by rw[<- hi];exact e),λb x e=>by rw[ho]at e;cases e⟩;refine⟨λi cF=> ?_,λa b ha hb fN=> ?_, ?_,h.tape,h.os,h.out,h.old,λi cF b hb=> ?_,h.n0⟩
 ·by_cases fH:i=N
  ·subst fH;rw[bx];exact hsU
  ·rw[aZ _ _ fH];exact h.sat i (by omega)
 ·by_cases Qa:a=N
  ·subst Qa;rw[bx];intro q hq;rw[ho]at hq;exact absurd rfl hq
  ·rw[aZ _ _ Qa];by_cases Qh:b=N
   ·subst Qh;rw[bx];intro q hq;refine⟨by rw[ho],λo hu=> ?_⟩;rw[hi]at hu;by_cases yT:a=0
    ·subst yT;exact hu
    ·exact(h.dT a 0 (by omega) h0 yT q hq).2 o hu
   ·rw[aZ _ _ Qh];exact h.dT a b (by omega) (by omega) fN
 ·refine h.ti.mute (λop au=>(jH op au).1) (λop au=>(jH op au).2.2.1 _) (λop au=> ?_) (by omega) (λop au=>(jH op au).2.2.2) (λi cF l hl idx a ha gP qk=> ?_) (λi cF l hl idx a ha gP=> ?_) (λidx a ha ee=>⟨λhp i cF=> ?_,λhp=> ?_⟩)
  ·simp only[Tx,SK,SU,or_false]at au;rcases au with rfl|rfl
   ·omega
   ·omega
  ·obtain⟨_,cU,nF⟩:=hl;by_cases fH:i=N
   ·subst fH;rw[bx]at cU;have:gV (VV 0) l:=by
     cases l with
     |cell a'=>rcases cU with z|z;exact absurd (by rw[ho]) z;exact .inr (by rw[<- hi];exact z)
     |obj r=>exact absurd (by rw[ho]) cU
     |_=>exact cU.elim
    exact hk (h.ti.kr 0 h0 l ⟨h0,this,nF⟩ idx a ha gP qk)
   ·rw[aZ _ _ fH]at cU;exact(h.ti.kr i (by omega) l ⟨by omega,cU,nF⟩ idx a ha gP qk).app _
  ·obtain⟨_,cU,nF⟩:=hl;by_cases fH:i=N
   ·subst fH;rw[bx]at cU;exfalso;cases l with
    |cell a'=>exact cU.1 (by rw[ho])
    |obj r=>exact cU (by rw[ho])
    |_=>exact cU.elim
   ·rw[aZ _ _ fH]at cU;exact(h.ti.kw i (by omega) l ⟨by omega,cU,nF⟩ idx a ha gP).app _
  ·have:=h.ti.sp idx a ha ee;rcases kg i cF with z|⟨rfl,z⟩
   ·exact(this.1 hp i z).app _
   ·exact hk (this.1 hp 0 z)
  ·have:=h.ti.sp idx a ha ee;rcases gf with rfl|⟨rfl,rfl⟩
   ·exact(this.2 hp).app _
   ·exact hk (this.2 hp)
 ·by_cases fH:i=N
  ·subst fH;rw[bx,ho]
  ·rw[aZ _ _ fH];exact h.jq i (by omega) b hb
end
section
variable {P:Program}{n0:Nat}{W0:World}{V:View}{gs gs':Array Goroutine}{w w':World}{sl:Option (Nat×Nat)}{t:Trace}{K:Nat->GS}{Im:cz}{ic:Nat}{ph:Option Phase}{p:Phase}{st st':Option eI}
theorem GS.acO{k:GS}(h:k.ni=false)(Im kT:cz):k.view kT=k.view Im:=by cases k<;>first|rfl|cases h
theorem GS.akX{k:GS}{c Wg d:Nat}{Im kT:cz}{Ss Nv:List (List Spec)}{g:Goroutine}(h:k.ni=false)(hS:∀(j:Nat) S,Ss[j]?=some S->Nv[j]?=some S)(hk:k.is P c Wg Im Ss d g):k.is P c Wg kT Nv d g:=by
 cases k with
 |work j hh V=>obtain⟨a,b,S,e,f⟩:=hk;exact⟨a,b,S,hS _ _ e,f⟩
 |nT j hh V V' g0 v z=>obtain⟨a,b,c,d,sp,S,B,e,f⟩:=hk;exact⟨a,b,c,d,sp,S,B,hS _ _ e,f⟩
 |gone q=>exact hk
 |add n=>exact hk
 |load n=>exact hk
 |store n=>exact hk
 |mw n=>exact hk
 |head k n=>cases h
 |l9 k n=>cases h
 |said n=>cases h
 |ij n=>cases h
 |last n=>cases h
 |acq n=>cases h
 |look n=>cases h
 |close n=>cases h
theorem Inv.spawn(h:Inv P n0 W0 V gs w t K Im ic (some p) st)(aJ:p.recv=false)(iO:V.deaf=0){g' child:Goroutine}{x y:MemOp}(hx:x.g=0/\x.act= .go gs.size)(hy:y.g=gs.size/\y.act= .start){V':View}{p':Phase}{kT:cz}{kK:Nat}{k':GS}(hc:p'.c=p.c)(yR:p'.Wg=p.Wg)
  (p9:mD V' V) (ua:V'.deaf=V.deaf) (qj:(k'.view kT).ab=V.ab) (hvo:(k'.view kT).own=λ_=>none) (hSs:∀(j:Nat) S,p.Ss[j]?=some S->p'.Ss[j]?=some S) (BO:k'.is P p.c p.Wg kT p'.Ss 0 child)
  (kg:∀i,i<gs.size->jb p' (gs.size+1) kK (upd K gs.size k') i->jb p gs.size ic K i) (gf:kK=ic\/kK=gs.size)
  (Ca:yn P n0 V' ((gs.setIfInBounds 0 g').push child) w (t++#[x,y]) (upd K gs.size k') kT kK (some p') (some .early)):
  Inv P n0 W0 V' ((gs.setIfInBounds 0 g').push child) w (t++#[x,y]) (upd K gs.size k') kT kK (some p') (some .early):=by
 obtain⟨dh,gY,mQ,gR⟩:=h.out;obtain⟨a1,a2,a3,a4,a5,a6,a7,a8,a9,bS⟩:=gR;rw[if_neg (by rw[aJ];simp)]at bS;obtain⟨c1,c2,c3,c4,c5,c6⟩:=bS;have aW:((gs.setIfInBounds 0 g').push child).size=gs.size+1:=by simp
 have jH:=acE hx.2 hy.2;have bz:∀i,Deaf (t++#[x,y]) i=Deaf t i:=λi=>Deaf_still λop au=>(jH op au).2.1;have Cb:=h.pos;have aT:Deaf t 0=0:=by rw[h.d0,iO]
 have aX:∀i,0<i->(K i).ni=false:=λi hi=>by
  cases e:(K i).ni with
  |false=>rfl
  |true=>have:=h.rQ hi e;omega
 have aiO:nd (some p) gs.size ic K 0:=by
  show jb p gs.size ic K 0;unfold jb;rw[if_neg (by rw[aJ];simp)];exact .inl rfl
 have xj:=gY.spawn (act':=nd (some p') (gs.size+1) kK (upd K gs.size k')) (kK:=kK) Cb aT hx hy (U:=k'.view kT) (by rw[kR];exact qj) hvo (λi hi=>by
   by_cases fH:i<gs.size
   ·exact .inl (kg i fH hi)
   ·refine .inr ⟨?_,aiO⟩;have cF:jb p' (gs.size+1) kK (upd K gs.size k') i:=hi;unfold jb at cF;split at cF<;>omega) (gf.imp id λe=>⟨e,c2⟩)
 have ajd:=(xj.less (i:=0) (V':=V') (by omega) (by rw[aZ _ _ (by omega),kR];exact p9)).congr (DK:=bG V' kT (upd K gs.size k')) λi hi=>by
  by_cases e9:i=0
  ·subst e9;rw[bx];simp[bG]
  ·rw[aZ _ _ e9];by_cases fH:i=gs.size
   ·subst fH;rw[bx];simp[bG,e9,bx]
   ·rw[aZ _ _ fH];simp only[bG,e9,if_false,aZ _ _ fH];exact GS.acO (aX i (by omega)) _ _
 refine Inv.mk' (by omega) (by rw[aZ _ _ (by omega)];exact h.k0) (by rw[bz,ua];exact h.d0) (λi z hi hz=> ?_) ?_ ?_ Ca
 ·rw[bz];show (upd K gs.size k' i).is P p'.c p'.Wg kT p'.Ss _ z;rw[hc,yR];by_cases fH:i=gs.size
  ·subst fH;rw[bx,Ov gY.ti.gs];have:z=child:=by
    rw[show gs.size=(gs.setIfInBounds 0 g').size by simp]at hz;rw[Array.getElem?_push_size]at hz;exact(Vz hz).symm
   rw[this];exact BO
  ·have asu:i<gs.size:=(by have:=(SP.1 hz).1;omega);rw[aZ _ _ fH];rw[WC,if_neg (by simp;omega),SR (by omega)]at hz;exact GS.akX (aX i hi) hSs (dh i z hi hz)
 ·rw[aW];have e:rO (some p')=rO (some p):=by show qI p'.c p'.Wg=qI p.c p.Wg;rw[hc,yR]
  rw[e];exact ajd
 ·have hr:Rest p.Wg t K ic st:=mQ;rw[c3]at hr;show Rest p'.Wg _ _ _ _;rw[yR];intro idx a ha hm;have gC:=Al (λop au=>(jH op au).1) ha;obtain⟨op,au,_⟩:=touch_of gC;have hlt:=lt_size_of_getElem? au;rcases hr idx a gC hm with z|⟨z1,z2⟩|⟨s,hs,jJ⟩
  ·exact .inl (z.app _)
  ·exact .inr (.inl ⟨z1,λz=>z2 ((heard_old hlt).1 z)⟩)
  ·cases hs;obtain⟨i,hg,hi,hz⟩:=jJ;have fH:i<gs.size:=by
    obtain⟨op',bf,pj⟩:=Tl.1 hg;rw[<- pj];exact gY.ti.gs op' (mem_of_getElem? bf)
   refine .inr (.inr ⟨.early,rfl,i,by rw[g?_old hlt];exact hg,hi, ?_⟩);rcases hz with hz|hz|⟨r,hz,hle⟩
   ·exact .inl (by rw[aZ _ _ (by omega)];exact hz)
   ·omega
   ·exact .inr (.inr ⟨r,hz.app,hle⟩)
theorem Sat.KZ{c:Nat}{a:Nat}{x:Bool}{y z:Nat}{u:Bool}{D5:Array Value}(h:Sat V w)(hc:w.heap[c]?=some (.chan a D5 x y z u))(o:Nat):V.ab c o=none:=by
 cases e:V.ab c o with
 |none=>rfl
 |some v=>have:=h.ab c o v e;simp[Uj,hc]at this
theorem Inv.aay(h:Inv P n0 W0 V gs w t K Im ic (some p) st)(aJ:p.recv=false){i:Nat}(hi:0<i):(K i).ni=false:=by
 have hx:=h.phase.2.2.2.2.2.2.2.2.2;rw[if_neg (by rw[aJ];simp)]at hx;cases e:(K i).ni with
 |false=>rfl
 |true=>have:=h.rQ hi e;have:=hx.2.1;omega
theorem Inv.En(h:Inv P n0 W0 V gs w t K Im ic (some p) st)(aJ:p.recv=false)(iO:V.deaf=0){g' child:Goroutine}{x y:MemOp}(hx:x.g=0/\x.act= .go gs.size)(hy:y.g=gs.size/\y.act= .start){hh:Ht}{sp:Spec}{S:List Spec}(hlen:p.Ss.length<4)(oi:∀o,V.ab p.Wg o=none)
  (BO:lz P hh {ab:=V.ab,own:=λ_=>none,deaf:=0,role:= .work p.c p.Wg (sp::S)} child):
  Inv P n0 W0 {V with role:= .fork p.c p.Wg (p.Ss++[sp::S])} ((gs.setIfInBounds 0 g').push child) w (t++#[x,y]) (upd K gs.size (.work p.Ss.length hh {ab:=V.ab,own:=λ_=>none,deaf:=0,role:= .work p.c p.Wg (sp::S)})) Im ic
   (some {p with Ss:=p.Ss++[sp::S]}) (some .early):=by
 obtain⟨dh,gY,mQ,gR⟩:=h.out;obtain⟨a1,a2,a3,a4,a5,a6,a7,a8,a9,bS⟩:=gR;rw[if_neg (by rw[aJ];simp)]at bS;obtain⟨c1,c2,c3,c4,c5,c6⟩:=bS;have aW:((gs.setIfInBounds 0 g').push child).size=gs.size+1:=by simp
 have dV:Sat V w:=by have:=gY.sat 0 h.pos;rwa [kR]at this
 have y8:=dV.KZ (dV.own _ _ c1);have c9:∀i j,0<i->i<gs.size->(K i).idx=some j->j<p.Ss.length:=λi j hi hlt e=>by
  have QH:=dh i _ hi (SJ hlt);have JX:(K i).is P p.c p.Wg Im p.Ss (Deaf t i) gs[i]:=QH;cases kY:K i<;>rw[kY]at e JX<;>simp[GS.idx]at e
  ·subst e;obtain⟨_,_,S,e,_⟩:=JX;exact(SM.1 e).1
  ·subst e;obtain⟨_,_,_,_,_,_,_,e,_⟩:=JX;exact(SM.1 e).1
 refine h.spawn aJ iO hx hy rfl rfl ⟨λ_=> .inr rfl,λ_ _=> .inr rfl,λ_ _ _=>rfl⟩ rfl rfl rfl (λj S' e=> ?_) ⟨rfl,BO,sp::S,by simp,rfl⟩ (λi hi kg=> ?_) (.inl rfl) ?_
 ·show (p.Ss++[sp::S])[j]?=some S';rw[SY (SM.1 e).1];exact e
 ·unfold jb at kg⊢;rw[if_neg (by show ¬p.recv=true;rw[aJ];simp)]at kg;rw[if_neg (by rw[aJ];simp)];rw[aZ _ _ (by omega)]at kg;exact kg.imp id λz=>⟨hi,z.2⟩
 ·refine⟨a1,a2,a3,a4,a5,by simp only[SQ,T7,UA];omega,λi hi=> ?_,λi i' j b1 b2 b3 b4 b5 b6=> ?_,λj S' b1 b2=> ?_, ?_⟩
  ·by_cases fH:i=gs.size
   ·subst fH;rw[bx];exact⟨rfl,y8,rfl,oi,λe=>by cases e⟩
   ·rw[aZ _ _ fH];exact a7 i hi
  ·rw[aW]at b2 b4;by_cases e1:i=gs.size
   ·by_cases e2:i'=gs.size
    ·omega
    ·rw[aZ _ _ e2]at b6;have:=c9 i' j b3 (by omega) b6;subst e1;rw[bx]at b5;simp only[GS.idx,Te]at b5;omega
   ·rw[aZ _ _ e1]at b5;by_cases e2:i'=gs.size
    ·have:=c9 i j b1 (by omega) b5;subst e2;rw[bx]at b6;simp only[GS.idx,Te]at b6;omega
    ·rw[aZ _ _ e2]at b6;exact a8 i i' j b1 (by omega) b3 (by omega) b5 b6
  ·rw[aW];by_cases hj:j<p.Ss.length
   ·have:p.Ss[j]?=some S':=by
     have HQ:(p.Ss++[sp::S])[j]?=some S':=b1;rwa [SY hj]at HQ
    obtain⟨i,e1,e2,e3⟩:=a9 j S' this b2;exact⟨i,e1,by omega,by rw[aZ _ _ (by omega)];exact e3⟩
   ·have iC:j=p.Ss.length:=by
     have:=(SM.1 (show (p.Ss++[sp::S])[j]?=some S' from b1)).1;simp at this;omega
    exact⟨gs.size,h.pos,by omega,by rw[bx,iC];rfl⟩
  ·show if p.recv=true then _ else _;rw[if_neg (by rw[aJ];simp)];refine⟨c1,c2,rfl,λi b1 b2=> ?_,λS' hS'=> ?_, ?_⟩
   ·rw[aW]at b2;by_cases fH:i=gs.size
    ·subst fH;rw[bx];exact .inl rfl
    ·rw[aZ _ _ fH];exact c4 i b1 (by omega)
   ·rcases SN.1 hS' with z|z
    ·exact c5 S' z
    ·simp at z;subst z;simp
   ·rw[aW,sumTo,bx,SQ,<- c6];rw[sumTo_congr (g:=λi=>(K i).cnt) λi hi=>by rw[aZ _ _ (by omega)]];rfl
theorem Inv.Em(h:Inv P n0 W0 V gs w t K Im ic (some p) st)(aJ:p.recv=false)(iO:V.deaf=0){g' child:Goroutine}{x y:MemOp}(hx:x.g=0/\x.act= .go gs.size)(hy:y.g=gs.size/\y.act= .start){n:Nat}
  (yR:V.own p.Wg=some (wgBlock P (((p.Ss.length:Nat):Int)* KK) 0)) (oi:∀o,V.ab p.Wg o=none) (BO:cR P (eQ P V.ab p.c p.Wg 5) n 0 child):
  Inv P n0 W0 {V with own:=λb=>if b=p.c\/b=p.Wg then none else V.own b,role:= .recv p.c p.Wg p.Ss} ((gs.setIfInBounds 0 g').push child) w (t++#[x,y]) (upd K gs.size (.head 5 n)) V.ab gs.size (some {p with recv:=true}) (some .early):=by
 obtain⟨dh,gY,mQ,gR⟩:=h.out;obtain⟨a1,a2,a3,a4,a5,a6,a7,a8,a9,bS⟩:=gR;rw[if_neg (by rw[aJ];simp)]at bS;obtain⟨c1,c2,c3,c4,c5,c6⟩:=bS;have aW:((gs.setIfInBounds 0 g').push child).size=gs.size+1:=by simp
 have dV:Sat V w:=by have:=gY.sat 0 h.pos;rwa [kR]at this
 have y8:=dV.KZ (dV.own _ _ c1);have Cb:=h.pos;refine h.spawn aJ iO hx hy rfl rfl ⟨λb=> ?_,λ_ _=> .inr rfl,λ_ _ _=>rfl⟩ rfl rfl rfl (λj S' e=>e) BO (λi hi kg=> ?_) (.inr rfl) ?_
 ·by_cases e:b=p.c\/b=p.Wg
  ·exact .inl (by simp only[e,if_true])
  ·exact .inr (by simp only[e,if_false])
 ·unfold jb at kg⊢;rw[if_pos rfl]at kg;rw[if_neg (by rw[aJ];simp)];rw[aZ _ _ (by omega)]at kg;obtain⟨z1,_,z2⟩:=kg;rcases c4 i z1 hi with z|⟨q,z⟩
  ·exact .inr ⟨hi,z⟩
  ·exfalso;rw[z]at z2;rcases z2 with z2|z2|z2|z2
   ·cases z2
   ·omega
   ·cases z2
   ·cases z2
 ·refine⟨a1,a2,a3,a4,a5,a6,λi hi=> ?_,λi i' j b1 b2 b3 b4 b5 b6=> ?_,λj S' b1 b2=> ?_, ?_⟩
  ·by_cases fH:i=gs.size
   ·subst fH;rw[bx];exact⟨rfl,y8,rfl,oi,λ_=>rfl⟩
   ·rw[aZ _ _ fH,GS.acO (h.aay aJ hi) Im];have:=a7 i hi;exact⟨this.1,this.2.1,this.2.2.1,this.2.2.2.1,λe=>by rw[h.aay aJ hi]at e;cases e⟩
  ·rw[aW]at b2 b4;by_cases e1:i=gs.size
   ·subst e1;rw[bx]at b5;cases b5
   ·by_cases e2:i'=gs.size
    ·subst e2;rw[bx]at b6;cases b6
    ·rw[aZ _ _ e1]at b5;rw[aZ _ _ e2]at b6;exact a8 i i' j b1 (by omega) b3 (by omega) b5 b6
  ·obtain⟨i,e1,e2,e3⟩:=a9 j S' b1 b2;exact⟨i,e1,by omega,by rw[aZ _ _ (by omega)];exact e3⟩
  ·show if true=true then _ else _;rw[if_pos rfl];refine⟨⟨by simp,y8,by simp,oi⟩,by omega,by rw[aW];omega, .early,rfl, ?_⟩;rw[aW];have e1:sumTo (gs.size+1) (λi=>(upd K gs.size (.head 5 n) i).cnt)=p.Ss.length:=by
    rw[sumTo,bx,<- c6];rw[sumTo_congr (g:=λi=>(K i).cnt) λi hi=>by rw[aZ _ _ (by omega)]];rfl
   have e2:sumTo (gs.size+1) (λi=>(upd K gs.size (.head 5 n) i).late)=0:=by
    have hz:∀N,sumTo N (λ_=>0)=0:=λN=>(by induction N with|zero=>rfl|succ N ih=>simp[sumTo,ih]);rw[sumTo,bx];rw[sumTo_congr (g:=λ_=>0) λi hi=> ?_,hz]
    ·rfl
    ·rw[aZ _ _ (by omega)];rcases UF i with rfl|e9
     ·rw[h.k0];rfl
     ·rcases c4 i e9 hi with z|⟨q,z⟩
      ·cases kY:K i<;>rw[kY]at z<;>first|rfl|cases z
      ·rw[z];rfl
   unfold Mode;simp only[e1,e2,bx];exact .inl ⟨⟨0,dV.own _ _ c1⟩,trivial,trivial,a6,dV.own _ _ yR, .inl ⟨5,rfl,by omega⟩⟩
theorem Inv.begin(h:Inv P n0 W0 V gs w t K Im ic none st){c Wg:Nat}(aE:c≠Wg)(hc:V.own c=some (.chan 0 #[] false 0 0 false)) (hW:V.own Wg≠none) (oi:∀o,V.ab Wg o=none):
  Inv P n0 W0 {V with role:= .fork c Wg []} gs w t (λi=>if i<gs.size then K i else .gone 0) Im 0 (some ⟨c,Wg,[],false⟩) (some .early):=by
 obtain⟨dh,gY,mQ,gR⟩:=h.out;have dV:Sat V w:=by have:=gY.sat 0 h.pos;rwa [kR]at this
 have y8:=dV.KZ (dV.own _ _ hc);have sJ:∀i,(∃q,(if i<gs.size then K i else .gone 0)=GS.gone q):=λi=>by
  by_cases hi:i<gs.size
  ·rw[if_pos hi];rcases UF i with rfl|e9
   ·exact⟨0,h.k0⟩
   ·obtain⟨q,hq,_⟩:=dh i _ e9 (SJ hi);exact⟨q,hq⟩
  ·rw[if_neg hi];exact⟨0,rfl⟩
 have im:∀{b x},V.own b=some x->n0<=b/\b<w.heap.size:=λ{b x} e=>by
  refine⟨?_,dV.lt e⟩;apply Nat.le_of_not_lt;intro hb;have:=gY.jq 0 h.pos b hb;rw[kR,e]at this;cases this
 obtain⟨xW,RV⟩:∃x,V.own Wg=some x:=by cases e:V.own Wg with|none=>exact absurd e hW|some x=>exact⟨x,rfl⟩
 have mi:∀i,0<i->((if i<gs.size then K i else .gone 0).view Im)=noView:=λi _=>by obtain⟨q,e⟩:=sJ i;rw[e];rfl
 refine Inv.mk' h.pos (by rw[if_pos h.pos];exact h.k0) h.d0 (λi x hi hx=> ?_) ?_ ?_ ?_
 ·have hlt:i<gs.size:=(SP.1 hx).1;obtain⟨q,hq,hy⟩:=dh i x hi hx;show (if i<gs.size then K i else .gone 0).is P c Wg Im [] _ x;rw[if_pos hlt,hq];exact hy
 ·have bc:Core (bG {V with role:= .fork c Wg []} Im (λi=>if i<gs.size then K i else .gone 0)) gs.size w t (rO none) (nd none gs.size ic K) ic n0 W0:=by
   refine(gY.role (i:=0) (V':={V with role:= .fork c Wg []}) h.pos (by rw[kR]) (by rw[kR])).congr λi hi=> ?_;by_cases e9:i=0
   ·subst e9;rw[bx];simp[bG]
   ·rw[aZ _ _ e9];simp[bG,e9,hi]
  refine⟨bc.sat,bc.dT, ?_,bc.tape,bc.os,bc.out,bc.old,bc.jq,bc.n0⟩;refine bc.ti.weaken (SO _) (λi l _ x=> .inl ⟨x.1,x.2.1,λz=>z.elim⟩) (λi l _ x=>⟨x.1,x.2.1,λz=>z.elim⟩) (λidx a ha ee=> ?_);have hk:Knows t 0 idx:=by
   have xF:jO V a.loc:=by
    have zx:qI c Wg a.loc:=ee;cases hl:a.loc with
    |cell ad=>rw[hl]at zx;have e:ad.block=Wg:=zx;exact⟨by rw[e];exact hW,by rw[e];exact oi _⟩
    |obj r=>rw[hl]at zx;have e:r=c:=zx;show V.own r≠none;rw[e,hc];simp
    |_=>rw[hl]at zx;exact zx.elim
   exact gY.ti.kw 0 h.pos a.loc ⟨h.pos,by rw[kR];exact xF,λz=>z.elim⟩ idx a ha rfl
  refine⟨λ_ i hi=> ?_,λ_=>hk⟩;have cF:jb ⟨c,Wg,[],false⟩ gs.size 0 (λi=>if i<gs.size then K i else .gone 0) i:=hi;unfold jb at cF;rw[if_neg (by simp)]at cF;rcases cF with rfl|⟨_,e⟩
  ·exact hk
  ·obtain⟨q,eq⟩:=sJ i;simp only[eq]at e;cases e
 ·have aQ:st=none:=gR;intro idx a ha hm;rcases mQ idx a ha hm with z|z|⟨s,e,_⟩
  ·exact .inl z
  ·exact .inr (.inl z)
  ·rw[aQ]at e;cases e
 ·refine⟨(im hc).1,(im RV).1,aE,(im hc).2,(im RV).2,by simp,λi hi=> ?_,λi i' j _ _ _ _ b5=> ?_,λj S b1=>by simp at b1, ?_⟩
  ·rw[mi i hi];exact⟨rfl,λ_=>rfl,rfl,λ_=>rfl,λe=>by obtain⟨q,eq⟩:=sJ i;simp only[eq]at e;cases e⟩
  ·obtain⟨q,eq⟩:=sJ i;simp only[eq]at b5;cases b5
  ·show if false=true then _ else _;rw[if_neg (by simp)];refine⟨hc,rfl,rfl,λi _ _=> .inr (sJ i),by simp, ?_⟩;have hz:∀N,sumTo N (λ_=>0)=0:=λN=>(by induction N with|zero=>rfl|succ N ih=>simp[sumTo,ih]);rw[sumTo_congr (g:=λ_=>0) λi _=>by obtain⟨q,eq⟩:=sJ i;show (if i<gs.size then K i else GS.gone 0).cnt=0;rw[eq];rfl];exact hz _
theorem Inv.apt(h:Inv P n0 W0 V gs w t K Im ic (some p) st)(aJ:p.recv=true)(iO:V.deaf=0){g0 g':Goroutine}{n:Nat}(aX:w.heap[p.c]?=some (.chan 0 #[] true n n false)) {y:MemOp} (hy:y.g=0/\y.act= .recvClosed p.c):
  (∀S∈p.Ss,S=[])/\Inv P n0 W0 {V with role:= .plain} (gs.setIfInBounds 0 g') w (t++#[y]) K Im ic none none:=by
 obtain⟨dh,gY,mQ,gR⟩:=h.out;obtain⟨a1,a2,a3,a4,a5,a6,a7,a8,a9,bS⟩:=gR;rw[if_pos aJ]at bS;obtain⟨c1,c2,c3,s,c4,c5⟩:=bS;have xw:(∃pp n,s= .shut pp/\t.act? pp=some (.close p.c)/\t.heard pp/\w.heap[p.c]?=some (.chan 0 #[] true n n false))/\(sumTo gs.size λi=>(K i).late)=0/\(sumTo gs.size λi=>(K i).cnt)=0/\(K ic).shape= .gone 0:=by
  have no:¬∃n,w.heap[p.c]?=some (.chan 0 #[] false n n false):=λ⟨m,e⟩=>by rw[aX]at e;simp at e
  unfold Mode at c5;rcases c5 with m|m|m|m|m|m|m
  ·exact absurd m.1 no
  ·exact absurd m.1 no
  ·exact absurd m.1 no
  ·exact absurd m.1 no
  ·exact absurd m.1 no
  ·exact absurd m.1 no
  ·exact m
 obtain⟨⟨pp,n',rfl,m1,m2,_⟩,m3,m4,m5⟩:=xw;have sJ:∀i,i<gs.size->∃q,K i= .gone q:=λi hi=>by
  have e1:(K i).cnt<=sumTo gs.size λi=>(K i).cnt:=le_sumTo (f:=λi=>(K i).cnt) hi;have e2:(K i).late<=sumTo gs.size λi=>(K i).late:=le_sumTo (f:=λi=>(K i).late) hi;rcases UF i with rfl|e9
  ·exact⟨0,h.k0⟩
  ·have hc:=h.rQ (i:=i) e9;have z1:(K i).cnt=0:=(by omega);have z2:(K i).late=0:=(by omega);clear e1 e2;cases kY:K i<;>rw[kY]at z1 z2 hc<;>first
    |exact⟨_,rfl⟩
    |(exfalso;simp[GS.cnt]at z1;done)
    |(exfalso;simp[GS.late]at z2;done)
    |(exfalso;have:=hc rfl;subst this;rw[kY]at m5;cases m5)
 have bV:jy p V:=⟨c1.1,c1.2.1,c1.2.2.1,c1.2.2.2⟩;have aT:Deaf t 0=0:=by rw[h.d0,iO]
 have nK:∀op∈(#[y]:Trace),op.act.touch?=none/\still op.act/\op.act.low w.heap.size/\(∀a,op.act≠ .mark (.release a))/\op.g=0:=by
  intro op au;simp only[Tx,SK,SU,or_false]at au;subst au;rw[hy.2];exact⟨rfl,⟨by simp,by simp⟩,a4,by simp,hy.1⟩
 have bz:∀i,Deaf (t++#[y]) i=Deaf t i:=λi=>Deaf_still λop au=>(nK op au).2.1;have aW:(gs.setIfInBounds 0 g').size=gs.size:=by simp
 refine⟨λS hS=> ?_, ?_⟩
 ·obtain⟨j,hj⟩:=Uz.1 hS;apply To;intro aE;obtain⟨i,e1,e2,e3⟩:=a9 j S hj aE;obtain⟨q,e⟩:=sJ i e2;rw[e]at e3;cases e3
 ·refine Inv.mk' (by rw[aW];exact h.pos) h.k0 (by rw[bz];exact h.d0) (λi x hi hx=> ?_) ?_ ?_ rfl
  ·rw[SR (by omega)]at hx;have hlt:i<gs.size:=(SP.1 hx).1;obtain⟨q,e⟩:=sJ i hlt;have hk:(K i).is P p.c p.Wg Im p.Ss (Deaf t i) x:=dh i x hi hx;rw[e]at hk;rw[bz];exact⟨q,e,hk⟩
  ·rw[aW];have h1:=(gY.role (i:=0) (V':={V with role:= .plain}) h.pos (by rw[kR]) (by rw[kR])).congr (DK:=bG {V with role:= .plain} Im K) λi hi=>by
    by_cases e9:i=0
    ·subst e9;rw[bx];simp[bG]
    ·rw[aZ _ _ e9];simp[bG,e9]
   have aaB:∀i l,i<gs.size->gV (bG {V with role:= .plain} Im K i) l->¬qI p.c p.Wg l:=λi l hi hl=>by
    by_cases e9:i=0
    ·subst e9;have b':jy p (bG {V with role:= .plain} Im K 0):=(by simp only[bG,if_true];exact bV);exact b'.zN hl
    ·obtain⟨q,e⟩:=sJ i hi;have:bG {V with role:= .plain} Im K i=noView:=(by simp only[bG,e9,if_false,e];rfl);rw[this]at hl;exact afd.zN hl
   refine⟨h1.sat,h1.dT, ?_,h1.tape,h1.os,h1.out,h1.old,h1.jq,h1.n0⟩;have vU:=h1.ti.mute (u:=#[y]) (N':=gs.size) (rd':=λi l=>i<gs.size/\gV (bG {V with role:= .plain} Im K i) l/\¬rO none l) (wr':=λi l=>i<gs.size/\jO (bG {V with role:= .plain} Im K i) l/\¬rO none l) (act':=nd (some p) gs.size ic K) (kK:=ic)
    (λop au=>(nK op au).1) (λop au=>(nK op au).2.2.1) (λop au=>by rw[(nK op au).2.2.2.2];exact h.pos) (SO _) (λop au=>(nK op au).2.2.2.1)
    (λi hi l hl idx a ha gP hw=>(h1.ti.kr i hi l ⟨hl.1,hl.2.1,aaB i l hi hl.2.1⟩ idx a ha gP hw).app _) (λi hi l hl idx a ha gP=>(h1.ti.kw i hi l ⟨hl.1,hl.2.1,aaB i l hi hl.2.1.rd⟩ idx a ha gP).app _)
    (λidx a ha ee=>⟨λhp i hi=>((h1.ti.sp idx a ha ee).1 hp i hi).app _,λhp=>((h1.ti.sp idx a ha ee).2 hp).app _⟩)
   exact vU.weaken (SO _) (λ_ _ _ x=> .inl x) (λ_ _ _ x=>x) (λidx a _ hx=>hx.elim)
  ·have hr:Rest p.Wg t K ic st:=mQ;rw[c4]at hr;intro idx a ha hm;have gC:=Al (λop au=>(nK op au).1) ha;obtain⟨op,au,_⟩:=touch_of gC;rcases hr idx a gC hm with z|⟨z1,z2⟩|⟨s,hs,hx⟩
   ·exact .inl (z.app _)
   ·exact .inr (.inl ⟨z1,λz=>z2 ((heard_old (lt_size_of_getElem? au)).1 z)⟩)
   ·cases hs;exact .inl (afE m1 m2 hy aT hx)
theorem Inv.ami(h:Inv P n0 W0 V gs w t K Im ic (some p) st)(aJ:p.recv=true)(x:Goroutine):Inv P n0 W0 V (gs.setIfInBounds 0 x) w t K Im ic (some p) st:=by
 obtain⟨dh,gY,mQ,gR⟩:=h.out;obtain⟨a1,a2,a3,a4,a5,a6,a7,a8,a9,bS⟩:=gR;have aW:(gs.setIfInBounds 0 x).size=gs.size:=by simp
 rw[if_pos aJ]at bS;obtain⟨c1,c2,c3,s,c4,c5⟩:=bS;refine Inv.mk' (by rw[aW];exact h.pos) h.k0 h.d0 (λi z hi hz=> ?_) (by rw[aW];exact gY) mQ ⟨a1,a2,a3,a4,a5,a6,a7,by rw[aW];exact a8,by rw[aW];exact a9, ?_⟩
 ·rw[SR (by omega)]at hz;exact dh i z hi hz
 ·rw[if_pos aJ];refine⟨c1,c2,by rw[aW];exact c3,s,c4, ?_⟩;rw[aW];have e0:t=t++#[]:=by simp
  rw[e0];exact c5.keep (λ_=>rfl) rfl rfl λru g hg=>by rw[SR (by omega)]at hg;exact ru g hg
end
def MJ (P:Program)(Post:Value->World->Prop)(n0:Nat)(W0:World)(V:View)(g:Goroutine):Prop:=
 g.status= .running/\∀gs w sl t K Im ic ph st,Inv P n0 W0 V gs w t K Im ic ph st->uT V.role ph->kC gs g->Ok P Post (crowd gs w sl) t
section
variable {P:Program}{Post:Value->World->Prop}{n0:Nat}{W0:World}
def adc (P:Program)(Post:Value->World->Prop)(gs:Array Goroutine)(w:World)(sl:Option (Nat×Nat))(t:Trace):Prop:=
 (∃m' ops,runT P (crowd gs w sl) 0=(.next m',ops)/\Ok P Post m' (t++ops))\/∃o w' ops,runT P (crowd gs w sl) 0=(.ended o w',ops)/\∀w0 C6,Wm P Post (crowd gs w0 C6) o w' (t++ops)
theorem kC.pos{gs:Array Goroutine}{g:Goroutine}(h:kC gs g):∃(i:Nat)(x:Goroutine),gs[i]?=some x/\x.status= .running:=by
 obtain⟨g0,h0,h1,_⟩:=h;exact⟨0,g0,h0,h1⟩
theorem MJ.i_{V:View}{g:Goroutine}(hg:g.status= .running)(own:∀gs w sl t K Im ic ph st,Inv P n0 W0 V gs w t K Im ic ph st->uT V.role ph->kC gs g->adc P Post gs w sl t):MJ P Post n0 W0 V g:=by
 refine⟨hg,λgs w sl t K Im ic ph st h hr hm=> ?_⟩;generalize hN:gs.size=N;generalize hμ:((λj=>(K j).da),flag gs ic)=μ;induction μ using(aau N).induction generalizing gs w sl t K st with
 |_ μ ih=>
  obtain⟨i,gi,d,oJ,aM,bK,aQ⟩:=crowd_pick (P:=P) (w:=w) (sl:=sl) (h.awake (.inl hm)) hm.pos;have hd:=h.draw d;rcases UF i with rfl|hi
  ·rcases own _ _ oJ _ _ _ _ _ _ hd hr hm with⟨m',ops,h1,h2⟩|⟨o,w',ops,h1,h2⟩
   ·exact Ok.step (aQ.trans h1) h2
   ·exact Ok.end (aQ.trans h1) (h2 w sl)
  ·rcases hd.other (sl:=oJ) (.inl hm) hi aM bK with⟨gs',w',ops,K',st',h1,h2,h3,h4,_,h5⟩|⟨p,_,_,jk⟩
   ·have pf:kC gs' g:=by
     cases ph with
     |none=>exact(h4 g 0 (by simp)).1 hm
     |some p=>exact(h4 g p.c (λq hq=>by cases hq;rfl)).1 hm
    exact Ok.step (aQ.trans h1) (ih _ (by rw[<- hμ,<- hN];exact h5) gs' w' oJ _ K' st' h3 pf (by rw[h2,hN]) rfl)
   ·obtain⟨g0,h0,hs,_⟩:=hm;obtain⟨g1,z,h1,_⟩:=jk;rw[h1]at h0;cases h0;cases hs
theorem MJ.recv{V:View}{g:Goroutine}{c Wg:Nat}{Ss:List (List Spec)}{z:Value}(jm:V.role= .recv c Wg Ss)(iO:V.deaf=0)(hg:g.status= .running)
  (lj:∀w,Sat V w->stepG P true g w= .comm g #[rcase c z] true (.recv true) w #[])
  (J1:∀(i:Nat) sp S v Im Ow,Ss[i]?=some (sp::S)->sp v Im Ow->(∀b,V.own b≠none->Ow b=none)->(∀b o,V.own b≠none->Im b o≠none->V.ab b o≠none)->(∃w,Sat V w/\(∀b o x,Im b o=some x->w.cell? ⟨b,o,none⟩=some x)/\∀b x,Ow b=some x->w.heap[b]?=some x)->
   MJ P Post n0 W0 (nO V Im Ow (.recv c Wg (Ss.set i S))) (TO g (.tuple #[v, .bool true])))
  (J2:(∀S∈Ss,S=[])->MJ P Post n0 W0 {V with role:= .plain} (TO g (.tuple #[z, .bool false]))):MJ P Post n0 W0 V g:=by
 have met:∀{gs w sl t K Im ic st i},Inv P n0 W0 V gs w t K Im ic (some ⟨c,Wg,Ss,true⟩) st->DF P n0 W0 V gs w sl t Im ic ⟨c,Wg,Ss,true⟩ st g i->∀{m},stepT P m=runT P (crowd gs w sl) i->Ok P Post m t:=by
  rintro gs w sl t K Im ic st i _ ⟨gs',w',ops,K',j,sp,S,v,kT,Ow,h1,h2,h3,h4,h5,h6,h6',h7,h8⟩ m hm
  exact Ok.step (hm.trans h1) ((J1 j sp S v kT Ow h4 h5 h6 h6' h7).2 gs' w' sl _ K' Im ic _ st h8 rfl h3)
 refine⟨hg,λgs w sl t K Im ic ph st h hr hm=> ?_⟩;have gR:ph=some ⟨c,Wg,Ss,true⟩:=by rw[jm]at hr;exact hr
 subst gR
 suffices key:∀N μ gs w sl t K st,Inv P n0 W0 V gs w t K Im ic (some ⟨c,Wg,Ss,true⟩) st->gs.size=N->((λj=>(K j).da),flag gs ic)=μ->(kC gs g\/(nX gs g c/\Calm gs/\ym w c))->Ok P Post (crowd gs w sl) t from key _ _ gs w sl t K st h rfl rfl (.inl hm)
 clear h hr hm;intro N μ;induction μ using(aau N).induction with
 |_ μ ih=>
  have A:∀gs w sl t K st,Inv P n0 W0 V gs w t K Im ic (some ⟨c,Wg,Ss,true⟩) st->gs.size=N->((λj=>(K j).da),flag gs ic)=μ->nX gs g c->Calm gs->ym w c->Ok P Post (crowd gs w sl) t:=by
   intro gs w sl t K st h hN hμ jk sF ho;have qa:kC gs g\/∃p,some (Phase.mk c Wg Ss true)=some p/\p.recv=true/\V.deaf=0/\nX gs g p.c:= .inr ⟨_,rfl,rfl,iO,jk⟩;have akD:∃(i:Nat)(x:Goroutine),gs[i]?=some x/\x.status= .running:=by
    obtain⟨i,x,_,h1,h2⟩:=h.apx rfl ho sF;exact⟨i,x,h1,h2⟩
   obtain⟨i,gi,d,oJ,aM,bK,aQ⟩:=crowd_pick (P:=P) (w:=w) (sl:=sl) (h.awake qa) akD;have hd:=h.draw d;have hi:0<i:=by
    rcases UF i with rfl|hi
    ·obtain⟨g1,z1,h1,_⟩:=jk;rw[h1]at aM;cases aM;cases bK
    ·exact hi
   rcases hd.other (sl:=oJ) qa hi aM bK with⟨gs',w',ops,K',st',h1,h2,h3,h4,h5,h6⟩|⟨p,hp,ug,_⟩
   ·refine Ok.step (aQ.trans h1) (ih _ (by rw[<- hμ,<- hN];exact h6) gs' w' oJ _ K' st' h3 (by rw[h2,hN]) rfl ?_);rcases(h4 g c (λq hq=>by cases hq;rfl)).2 jk ho with x|⟨x,y⟩
    ·exact .inl x
    ·exact .inr ⟨x,h5 g c jk sF,y⟩
   ·cases hp;exact met hd ug aQ
  intro gs w sl t K st h hN hμ pf;rcases pf with hm|⟨h1,h2,h3⟩
  ·obtain⟨i,gi,d,oJ,aM,bK,aQ⟩:=crowd_pick (P:=P) (w:=w) (sl:=sl) (h.awake (.inl hm)) hm.pos;have hd:=h.draw d;rcases UF i with rfl|hi
   ·
    obtain⟨g0,h0,ov,lc,iR,mO⟩:=hm;have fI:Sat V (w.at d):=(by have:=hd.core.sat 0 h.pos;rwa [kR]at this);have lh:stepG P (0==0) g0 (w.at d)= .comm g #[rcase c z] true (.recv true) (w.at d) #[]:=(by rw[<- lj _ fI];exact stepG_same lc iR mO _);have e0:(t++S8 0 g0.frame.fn g0.frame.place #[])=t:=(by simp[S8]);rcases hd.opens rfl with⟨n,gQ⟩|⟨ajT,⟨n,aX⟩,_⟩
    ·by_cases Rq:∃i j h' V₁ V₂ g1 v z1,0<i/\i<gs.size/\K i= .nT j h' V₁ V₂ g1 v z1
     ·exact met hd (hd.aou (sl:=oJ) rfl iO ⟨g0,h0,ov,lc,iR,mO⟩ (lj _ fI) Rq) aQ
     ·have offers:∀m x,0<m->gs[m]?=some x->x.status= .blocked->x.offers=none:=by
       intro m x iT hx hb;rcases GS.runs (show (K m).is P c Wg Im Ss (Deaf t m) x from h.is m x iT hx)with e|⟨e,_⟩|⟨j,h',V1,V2,g1,v,z1,e⟩|⟨_,_,e⟩
       ·rw[e]at hb;cases hb
       ·rw[e]at hb;cases hb
       ·exact absurd ⟨m,j,h',V1,V2,g1,v,z1,iT,(SP.1 hx).1,e⟩ Rq
       ·exact e
      have hw:=crowd_waits (P:=P) (sl:=oJ) (i:=0) h0 lh (λcc jg=>by
       simp only[Tx,SK,SU,or_false]at jg;subst jg;refine ways_recv_none gQ (partners_nil λm x hx=> ?_);rcases getElem?_stand gs 0 m x hx with⟨_,rfl⟩|⟨iT,jJ⟩
       ·exact offersAt_ph _ _
       ·by_cases hb:x.status= .blocked
        ·unfold offersAt;simp[hb,offers m x (by omega) jJ hb]
        ·exact offersAt_of_not_blocked hb _ _)
      refine Ok.step (aQ.trans hw) ?_;rw[e0];refine A _ (w.at d) oJ t K st (hd.ami rfl _) (by simp[hN]) ?_ ⟨g,z, ?_,rfl,rfl,rfl⟩ (λm x iT hx hb=> ?_) ⟨n,gQ⟩
      ·rw[<- hμ];have gf:0<ic:=(by obtain⟨_,_,x,_⟩:=h.mode rfl;exact x);unfold flag;rw[SR (by omega)]
      ·rw[S7 h.pos]
      ·rw[SR (by omega)]at hx;exact offers m x iT hx hb
    ·have hp:partners (gs.setIfInBounds 0 ph) c true=[]:=partners_nil λm x hx=>by
      rcases getElem?_stand gs 0 m x hx with⟨_,rfl⟩|⟨iT,jJ⟩
      ·exact offersAt_ph _ _
      ·have hlt:m<gs.size:=(SP.1 jJ).1;rcases GS.runs (show (K m).is P c Wg Im Ss (Deaf t m) x from h.is m x (by omega) jJ)with e|⟨e,_⟩|⟨j,h',V1,V2,g1,v,z1,e⟩|⟨_,eb,e⟩
       ·exact offersAt_of_not_blocked (by rw[e];simp) _ _
       ·exact offersAt_of_not_blocked (by rw[e];simp) _ _
       ·have:=ajT m (by omega) hlt;rw[e]at this;cases this
       ·unfold offersAt;simp[eb,e]
     have hw:=crowd_recv_closed (P:=P) (sl:=oJ) (i:=0) h0 lh aX hp;refine Ok.step (aQ.trans hw) ?_;rw[finishComm_recv,<- WL,e0];obtain⟨hS,hinv⟩:=hd.apt rfl iO (g0:=g0) (g':=TO g (recvd true z false)) aX (y:={g:=0,fn:=g.frame.fn,pos:=g.frame.place,act:= .recvClosed c}) ⟨rfl,rfl⟩;exact(J2 hS).2 _ (w.at d) oJ _ K Im ic none none hinv rfl ⟨TO g (recvd true z false),by rw[S7 h.pos],rfl,rfl,rfl,rfl⟩
   ·rcases hd.other (sl:=oJ) (.inl hm) hi aM bK with⟨gs',w',ops,K',st',h1,h2,h3,h4,_,h5⟩|⟨p,_,_,jk⟩
    ·exact Ok.step (aQ.trans h1) (ih _ (by rw[<- hμ,<- hN];exact h5) gs' w' oJ _ K' st' h3 (by rw[h2,hN]) rfl (.inl ((h4 g c (λq hq=>by cases hq;rfl)).1 hm)))
    ·obtain⟨g0,h0,hs,_⟩:=hm;obtain⟨g1,z1,h1,_⟩:=jk;rw[h1]at h0;cases h0;cases hs
  ·exact A gs w sl t K st h hN hμ h1 h2 h3
theorem amx:Closed true P true (MJ P Post n0 W0)where
 step V g hs h:=by
  refine MJ.i_ hs λgs w sl t K Im ic ph st hI hr ⟨g0,h0,ov,lc,iR,mO⟩=> .inl ?_;have fI:Sat V w:=by have:=hI.core.sat 0 hI.pos;rwa [kR]at this
  obtain⟨g',w',es,V',h1,h2,h3⟩:=h w fI;have aQ:stepG P (0==0) g0 w= .go g' w' es:=by rw[<- h1];exact stepG_same lc iR mO w
  refine⟨_,_,runT_crowd_go h0 aQ,h3.2 _ w' sl _ K Im ic ph st (hI.aam h0 h2 hr) (by rw[h2.role];exact hr) ⟨g', ?_,h3.1,rfl,rfl,rfl⟩⟩;rw[S7 (by simpa using hI.pos)]
 ghost V V' g hg h:=⟨h.1,λgs w sl t K Im ic ph st hI hr hm=>h.2 gs w sl t K Im ic ph st (hI.amh hg hr) (by rw[hg.role];exact hr) hm⟩
 send V g c Wg sp S v z B hr hd hs ho h1 h2 h3:=⟨hs,λgs w sl t K Im ic ph st hI b8 hm=>by rw[hr]at b8;exact b8.elim⟩
 done V g c Wg hr hd h1:=⟨h1.1,λgs w sl t K Im ic ph st hI b8 hm=>by rw[hr]at b8;exact b8.elim⟩
 slip V g g' c Wg hr hs h1 h2:=⟨hs,λgs w sl t K Im ic ph st hI b8 hm=>by rw[hr]at b8;exact b8.elim⟩
 more _:={
  start:=λV g c Wg hr aE hc hW oi h=>⟨h.1,λgs w sl t K Im ic ph st hI b8 hm=>by
   rw[hr]at b8;cases b8;exact h.2 gs w sl t _ Im 0 _ _ (hI.begin aE hc hW oi) rfl hm⟩
  En:=λV g g' child c Wg Ss sp S hr hd hs hc hW hlen oi aQ fi KO h=>by
   refine MJ.i_ hs λgs w sl t K Im ic ph st hI b8 ⟨g0,h0,ov,lc,iR,mO⟩=> .inl ?_;rw[hr]at b8;cases b8;have fI:Sat V w:=(by have:=hI.core.sat 0 hI.pos;rwa [kR]at this);have lN:stepG P (0==0) g0 w= .spawn g' child w #[]:=(by rw[<- aQ w fI];exact stepG_same lc iR mO w);obtain⟨hh,hk⟩:=KO _ (ard P);have bK:=runT_crowd_spawn (P:=P) (sl:=sl) h0 lN;have e0:S8 0 g0.frame.fn g0.frame.place #[]=#[]:=rfl;rw[e0]at bK;have hinv:=hI.En (g':=g') (x:={g:=0,fn:=g0.frame.fn,pos:=g0.frame.place,act:= .go gs.size}) (y:={g:=gs.size,fn:=child.frame.fn,pos:=g0.frame.place,act:= .start}) rfl hd ⟨rfl,rfl⟩ ⟨rfl,rfl⟩ hlen oi hk;exact⟨_,_,bK,h.2 _ w sl _ _ Im ic _ _ hinv rfl ⟨g',by rw[WC,if_neg (by simp;have:=hI.pos;omega),S7 hI.pos],h.1,rfl,rfl,rfl⟩⟩
  Em:=λV g g' child c Wg Ss hr hd hs aE hc hW y8 oi aQ fi aX h=>by
   refine MJ.i_ hs λgs w sl t K Im ic ph st hI b8 ⟨g0,h0,ov,lc,iR,mO⟩=> .inl ?_;rw[hr]at b8;cases b8;have fI:Sat V w:=(by have:=hI.core.sat 0 hI.pos;rwa [kR]at this);have lN:stepG P (0==0) g0 w= .spawn g' child w #[]:=(by rw[<- aQ w fI];exact stepG_same lc iR mO w);obtain⟨n,hk⟩:=aX;have bK:=runT_crowd_spawn (P:=P) (sl:=sl) h0 lN;have e0:S8 0 g0.frame.fn g0.frame.place #[]=#[]:=rfl;rw[e0]at bK;have hinv:=hI.Em (g':=g') (x:={g:=0,fn:=g0.frame.fn,pos:=g0.frame.place,act:= .go gs.size}) (y:={g:=gs.size,fn:=child.frame.fn,pos:=g0.frame.place,act:= .start}) rfl hd ⟨rfl,rfl⟩ ⟨rfl,rfl⟩ hW oi hk;exact⟨_,_,bK,h.2 _ w sl _ _ V.ab gs.size _ _ hinv rfl ⟨g',by rw[WC,if_neg (by simp;have:=hI.pos;omega),S7 hI.pos],h.1,rfl,rfl,rfl⟩⟩
  recv:=λV g c Wg Ss z hr hd hs ho aQ j1 j2=>MJ.recv hr hd hs aQ j1 j2}
structure Left (n0:Nat)(W0 w:World):Prop where
 tape:w.tape=W0.tape
 os:w.os=W0.os
 out:w.output=W0.output
 old:∀b,b<n0->w.heap[b]?=W0.heap[b]?
 size:n0<=w.heap.size
theorem Inv.I4{V:View}{gs:Array Goroutine}{w:World}{t:Trace}{K:Nat->GS}{Im:cz}{ic:Nat}{st:Option eI}(h:Inv P n0 W0 V gs w t K Im ic none st){v:Value}(hp:Post v w)(w0:World)(C6:Option (Nat×Nat)):Wm P Post (crowd gs w0 C6) (.done v) w t:=by
 obtain⟨dh,gY,mQ,aQ⟩:=h.out;have lN:st=none:=aQ;refine⟨v,rfl,hp,gY.ti.nr, ?_,⟨?_,rfl⟩, ?_⟩
 ·intro i g hg ov ⟨x,hx,hm,hk⟩;rcases mQ i x hx hm with⟨q,z,h1,h2,h3⟩|⟨h1,h2⟩|⟨_,h1,_⟩
  ·rcases h3 with rfl|h3
   ·exfalso;simp only[VQ,h1,UB,Te]at hg;omega
   ·exact⟨q,by simp[VQ,h1,h2],h3⟩
  ·rcases hk with hk|hk
   ·exact absurd h1 hk
   ·exact absurd hk h2
  ·rw[lN]at h1;cases h1
 ·intro g hg;obtain⟨i,hi⟩:=Uz.1 hg;rw[T9]at hi;have cF:gs[1+i]?=some g:=by simpa[crowd]using hi
  obtain⟨q,_,hq⟩:=dh (1+i) g (by omega) cF;exact⟨q,hq.leaves⟩
 ·intro i g hi e9;obtain⟨q,_,hq⟩:=dh i g (by omega) hi;exact⟨q,hq.hears _⟩
theorem MJ.end{V:View}{g:Goroutine}(hg:g.status= .running)(hr:V.role= .plain)
  (h:∀w,Sat V w->Left n0 W0 w->(∀b,b<n0->V.own b=none)->∃v w' es V',stepG P true g w= .ended (.done v) w' es/\dg V w V' w' es/\Post v w'):MJ P Post n0 W0 V g:=by
 refine MJ.i_ hg λgs w sl t K Im ic ph st hI b8 ⟨g0,h0,ov,lc,iR,mO⟩=> .inr ?_;have gY:=hI.out.2.1;have fI:Sat V w:=by have:=hI.core.sat 0 hI.pos;rwa [kR]at this
 obtain⟨v,w',es,V',h1,h2,h3⟩:=h w fI ⟨gY.tape,gY.os,gY.out,gY.old,gY.n0⟩ (λb hb=>by have:=gY.jq 0 hI.pos b hb;rwa [kR]at this);have aQ:stepG P (0==0) g0 w= .ended (.done v) w' es:=by rw[<- h1];exact stepG_same lc iR mO w
 refine⟨_,w',_,runT_crowd_ended h0 aQ,λw0 C6=> ?_⟩;have gR:ph=none:=by rw[hr]at b8;exact b8
 subst gR;have hinv:=hI.aam (g':=g0) h0 h2 b8;have sI:=hinv.I4 (Post:=Post) h3 w0 C6;obtain⟨v',e,hp,hn,hh,hl,hd⟩:=sI;refine⟨v',e,hp,hn,hh,⟨?_,rfl⟩, ?_⟩
 ·intro g JL;obtain⟨i,hi⟩:=Uz.1 JL;rw[T9]at hi;have cF:gs[1+i]?=some g:=by simpa[crowd]using hi
  obtain⟨q,_,hq⟩:=hI.out.1 (1+i) g (by omega) cF;exact⟨q,hq.leaves⟩
 ·intro i g hi e9;obtain⟨q,_,hq⟩:=hI.out.1 i g (by omega) hi;refine⟨q, ?_⟩;have:(t++S8 0 g0.frame.fn g0.frame.place es).deaf i (t++S8 0 g0.frame.fn g0.frame.place es).size=Deaf t i:=
   Deaf_other t (g:=i) (g':=0) (by omega) _ λop au=>by obtain⟨e,_,rfl⟩:=TB au;rfl
  rw[this];exact hq.hears _
theorem Inv.init(W:World){V:View}(ho:V.own=λ_=>none)(hd:V.deaf=0)(hs:Sat V W)(g:Goroutine):Inv P W.heap.size W V #[g] W #[] (λ_=> .gone 0) V.ab 0 none none:=by
 have gk:∀i,i<(1:Nat)->bG V V.ab (λ_=> .gone 0) i=V:=λi hi=>by
  obtain rfl:i=0:=by omega
  simp[bG]
 refine Inv.mk' (by simp) rfl (by rw[hd];rfl) (λi x hi hx=> ?_) ⟨λi hi=>by rw[gk i hi];exact hs,λi j hi hj kq=> ?_, ?_,rfl,rfl,rfl,λ_ _=>rfl,λi hi b _=>by rw[gk i hi,ho],SO _⟩ ?_ rfl
 ·exfalso;have:=(SP.1 hx).1;simp at this;omega
 ·simp at hi hj;omega
 ·refine⟨λsaid hr=> ?_,by simp,by simp,by simp,λi _ l _ idx a ha=> ?_,λi _ l _ idx a ha=> ?_,λidx a ha=> ?_⟩
  ·obtain⟨i,j,_,⟨a,b,ha,_⟩,_⟩:=hr;obtain⟨op,au,_⟩:=touch_of ha;simp at au
  ·obtain⟨op,au,_⟩:=touch_of ha;simp at au
  ·obtain⟨op,au,_⟩:=touch_of ha;simp at au
  ·obtain⟨op,au,_⟩:=touch_of ha;simp at au
 ·intro idx a ha _;obtain⟨op,au,_⟩:=touch_of ha;simp at au
theorem aiB{f:FuncId}{args:Array Value}{W:World}{V:View}{R:Out->View->Prop}(hi:P.inits.idxOf? f=none)(ho:V.own=λ_=>none)(hd:V.deaf=0)(b8:V.role= .plain)(hs:Sat V W)(h:Body true P f args .normal V R)
  (hR:∀o V',R o V'->V'.role= .plain/\∃v,o= .ret v/\∀w,Sat V' w->Left W.heap.size W w->Post v w):
  ∃M last o w' t',runNT P (M+1) (solo (G (Frame.enter P f args .normal) []) W) #[]=(.ended o w',t')/\runN P M (solo (G (Frame.enter P f args .normal) []) W)= .next last/\step P last= .ended o w'/\Wm P Post last o w' t':=by
 have hJ:MJ P Post W.heap.size W V (G (Frame.enter P f args .normal) []):=by
  refine h true _ amx [] λo V' fr r hl=> ?_;obtain⟨hr,v,rfl,hp⟩:=hR _ _ r;obtain⟨rfl,bz,hk,fn,hf,hm,gG⟩:=hl;refine MJ.end rfl hr λw hw zk hold=> ?_;obtain⟨es,w',aU,h1,h2,h3⟩:=gG.runs hw;rcases h3 with⟨x,h3,rfl,rfl⟩|⟨_,_,hx⟩
  ·refine⟨x,w',seen P fr.fn es,aU,by simp[G,stepG,unwind,doReturn,hm,bz,hk,hf,h3,h2,TN,hi],h1.seen P fr.fn, ?_⟩;refine hp w' h1.sat ⟨h1.tape.trans zk.tape,h1.os.trans zk.os,h1.output.trans zk.out,λb hb=> ?_,Ur zk.size h1.size⟩;rw[h1.frame b (Ta hb zk.size) (hold b hb)];exact zk.old b hb
  ·exact hx.elim
 exact hJ.2 #[_] W none #[] _ _ _ none none (Inv.init W ho hd hs _) (by rw[b8];rfl) ⟨_,rfl,rfl,rfl,rfl,rfl⟩
end
def gI (P:Program)(main:Bool)(g:Goroutine):Goroutine:=match stepG P main g default with
 | .go g' _ _=>g'
 |_=>g
def zO (P:Program)(main:Bool)(g:Goroutine):Array Event:=match stepG P main g default with
 | .go _ _ es=>es
 |_=>#[]
def cI (P:Program)(main:Bool):Nat->Goroutine->Goroutine
 |0,g=>g
 |n+1,g=>cI P main n (gI P main g)
def fV (P:Program)(main:Bool)(w:World):Nat->Goroutine->List GStep
 |0,_=>[]
 |n+1,g=>stepG P main g w::fV P main w n (gI P main g)
def fM (P:Program)(main:Bool)(w:World):Nat->Goroutine->List GStep
 |0,_=>[]
 |n+1,g=> .go (gI P main g) w (zO P main g)::fM P main w n (gI P main g)
def bO (g:Goroutine):Bool:=match g.status with
 | .running=>true
 |_=>false
theorem bO.out{g:Goroutine}(h:bO g=true):g.status= .running:=by
 unfold bO at h;split at h
 ·assumption
 ·cases h
def iW (P:Program)(main:Bool):Nat->Goroutine->Bool
 |0,_=>true
 |n+1,g=>bO g&&(zO P main g).all VU&&iW P main n (gI P main g)
def oG (P:Program)(main:Bool):Nat->Goroutine->Bool
 |0,_=>true
 |n+1,g=>bO g&&(zO P main g).isEmpty&&oG P main n (gI P main g)
def jR (P:Program)(main:Bool):Nat->Nat->Goroutine->Nat
 |0,d,_=>d
 |n+1,d,g=>jR P main n (deafBehind d (zO P main g)) (gI P main g)
section
variable {P:Program}
theorem LF{n:Nat}{main:Bool}{g:Goroutine}(h:iW P main (n+1) g=true):g.status= .running/\(∀e∈zO P main g,VU e=true)/\iW P main n (gI P main g)=true:=by
 simp only[iW,Td]at h;exact⟨bO.out h.1.1,λe he=>Uq.1 h.1.2 e he,h.2⟩
theorem wi{Stop:Nat->Goroutine->Prop}:∀(n d:Nat)(g:Goroutine),(∀w,fV P false w n g=fM P false w n g)->iW P false n g=true->(∃m,cR P Stop m (jR P false n d g) (cI P false n g))->∃m,cR P Stop m d g
 |0,d,g,_,_,hs=>hs
 |n+1,d,g,h,hm,hs=>by
  obtain⟨h1,h2,h3⟩:=LF hm;obtain⟨m,hm⟩:=wi n _ (gI P false g) (λw=>(U5 (h w)).2) h3 hs;exact⟨m+1, .inr ⟨h1,_,_,h2,λw=>(U5 (h w)).1,hm⟩⟩
theorem abW{Wg:Nat}{Stop:Nat->Goroutine->Prop}:∀(n d:Nat)(g:Goroutine),(∀w,fV P false w n g=fM P false w n g)->iW P false n g=true->(∃m,ig P Wg Stop m (jR P false n d g) (cI P false n g))->∃m,ig P Wg Stop m d g
 |0,d,g,_,_,hs=>hs
 |n+1,d,g,h,hm,hs=>by
  obtain⟨h1,h2,h3⟩:=LF hm;obtain⟨m,hm⟩:=abW n _ (gI P false g) (λw=>(U5 (h w)).2) h3 hs;exact⟨m+1, .inr ⟨h1,_,_,h2,λw _ _ _=>(U5 (h w)).1,hm⟩⟩
theorem abX{Wg:Nat}{Stop:Nat->Goroutine->Prop}{d:Nat}{g g':Goroutine}(hr:g.status= .running)(h:∀w x y,WgAt P Wg w x y->stepG P false g w= .go g' w #[]) (hs:∃m,ig P Wg Stop m d g'):∃m,ig P Wg Stop m d g:=by
 obtain⟨m,hm⟩:=hs;exact⟨m+1, .inr ⟨hr,g',#[],by simp,h,by simpa[deafBehind]using hm⟩⟩
theorem Gu:∀(n d:Nat)(g:Goroutine),(∀w,fV P false w n g=fM P false w n g)->iW P false n g=true->(∃q,QuitsD P q (jR P false n d g) (cI P false n g))->∃q,QuitsD P q d g
 |0,d,g,_,_,hs=>hs
 |n+1,d,g,h,hm,hs=>by
  obtain⟨h1,h2,h3⟩:=LF hm;obtain⟨m,hm⟩:=Gu n _ (gI P false g) (λw=>(U5 (h w)).2) h3 hs;exact⟨m+1, .inr ⟨h1,_,_,h2,λw=>(U5 (h w)).1,hm⟩⟩
theorem Mr{d:Nat}{g:Goroutine}(h:g.status= .finished)(hd:d=0):∃q,QuitsD P q d g:=⟨0,h,hd⟩
theorem aoq{n:Nat}{main:Bool}{g:Goroutine}(h:oG P main (n+1) g=true):g.status= .running/\zO P main g=#[]/\oG P main n (gI P main g)=true:=by
 simp only[oG,Td]at h;exact⟨bO.out h.1.1,by simpa using h.1.2,h.2⟩
theorem sX{lv main:Bool}{J:View->Goroutine->Prop}(C:Closed lv P main J){V:View}:∀(n:Nat)(g:Goroutine),(∀w,fV P main w n g=fM P main w n g)->oG P main n g=true->J V (cI P main n g)->J V g
 |0,g,_,_,hs=>hs
 |n+1,g,h,hm,hs=>by
  obtain⟨h1,h2,h3⟩:=aoq hm;refine C.idle h1 (λw=> ?_) (sX C n (gI P main g) (λw=>(U5 (h w)).2) h3 hs);rw[(U5 (h w)).1,h2]
theorem Closed.mute{lv main:Bool}{J:View->Goroutine->Prop}(C:Closed lv P main J){V:View}{g g':Goroutine}{m:Mark}(hm:m= .disable\/m= .enable)(hr:g.status= .running)(h:∀w,stepG P main g w= .go g' w #[⟨.mark m,false,true⟩]) (hJ:J {V with deaf:=deafBehind V.deaf #[⟨.mark m,false,true⟩]} g'):J V g:=by
 refine C.step _ _ hr λw hw=> ?_;have hs:=apg (P:=P) (V:=V) (k:=(.pure ():Sem Unit)) (K:=λ_ V'=>V'={V with deaf:=deafBehind V.deaf #[⟨.mark m,false,true⟩]}) (Kp:=λ_ _=>False) hm (cK rfl);obtain⟨es,w',V',k1,k2,k3⟩:=hs.runs hw;rcases k3 with⟨x,k3,rfl⟩|⟨_,_,hx⟩
 ·have e1:Xy () w=Xy x w':=k3;have e2:es=#[⟨.mark m,false,true⟩]:=k2.symm;cases e1;subst e2;refine⟨g',w,_,_,h w, ?_,hJ⟩;rwa [sZ (by rcases hm with rfl|rfl<;>simp)]at k1
 ·exact hx.elim
def ready (g:Goroutine):Option Oper:=match g with
 |{frame:={fn:=_,tmps,todo:= .inRegion ops (i::_)::_,defers:=_,mode:= .run,kind,roundOf:=none},callers:=_,status:= .running,dying:=none,offers:=none}=>
  match ops[i]?with
  |some o=>if Tf o (yielded ops tmps)&& !(kind== .early)then some o else none
  |none=>none
 |_=>none
def fin (g:Goroutine)(v:Value):Goroutine:={g with frame:=g.frame.finish v}
theorem ready.out{g:Goroutine}{o:Oper}(h:ready g=some o):∃(b:Frame)(a:Act)(ops:Array Oper)(i:Nat)(rest:List Nat)(k:List Item)(cs:List Frame),g=G (b.at a (.inRegion ops (i::rest)::k)) cs/\ops[i]?=some o/\Tf o (yielded ops a.tmps)=true/\b.kind≠ .early/\a.eval=g.frame.eval/\
  (∀v,G (b.at (a.put o.dst v) (.inRegion ops rest::k)) cs=fin g v)/\b.fn=g.frame.fn/\g.status= .running:=by
 unfold ready at h;split at h
 ·rename_i fn tmps ops i rest k defers kind cs;split at h
  ·rename_i o' ho;split at h
   ·rename_i hw;cases h;simp only[Td,TL,beq_eq_false_iff_ne,ne_eq]at hw;refine⟨{(default:Frame)with fn,kind},⟨tmps,defers⟩,ops,i,rest,k,cs,rfl,ho,hw.1,hw.2, ?_,λv=> ?_,rfl,rfl⟩
    ·funext x;cases x<;>rfl
    ·unfold fin;have:=Frame.finish_at {(default:Frame)with fn,kind} ⟨tmps,defers⟩ ops i rest k v;rw[ho]at this;simp only[Frame.at,Option.bind_some]at this⊢;rw[this];rfl
   ·cases h
  ·cases h
 ·cases h
def cr (g:Goroutine):Option (FuncId×Array Value):=match ready g with
 |some {op:= .call {callee:= .value (.func f),args, .. }, .. }=>some (f,args.map g.frame.eval)
 |_=>none
theorem cr.out{g:Goroutine}{f:FuncId}{vs:Array Value}(h:cr g=some (f,vs)):∃o aD l6,ready g=some o/\o.op= .call {callee:= .value (.func f),args:=aD,argTypes:=l6}/\aD.map g.frame.eval=vs:=by
 unfold cr at h;split at h
 ·rename_i f' aD l6 dst ty pos af gd ho;cases h;exact⟨_,_,_,ho,rfl,rfl⟩
 ·cases h
structure Ext (P:Program)(f:FuncId)(e:Array Value->Sem Value):Prop where
 fn : ∃ fn, P.funcs[f]? = some fn /\ (fn.name == "runtime.NumGoroutine") = false /\ fn.body.isNone = true /\ Extern.findNext fn = none /\ Extern.find fn = some e
variable {main:Bool}{g:Goroutine}{f:FuncId}{w:World}
theorem ab0{v d:Int}{k:IntKind}{ad:Addr}(h:cr g=some (f,#[.pointer (some ad), .int k d])) (he:Ext P f (Xb (ZT .add) k true)) (hc:w.cell? ad=some (.int k v)) (hz:w.frozen? ad=false):
  stepG P main g w= .go (fin g (.int k (k.wrap (v+d)))) (w.setCell ad (.int k (k.wrap (v+d)))) #[⟨.cell ad,false,true⟩,⟨.cell ad,true,true⟩]:=by
 obtain⟨o,aD,l6,h1,h2,h3⟩:=cr.out h;obtain⟨b,a,ops,i,rest,kk,cs,e,q1,q2,q3,q4,q5,q6,_⟩:=ready.out h1;obtain⟨fn,f1,f2,f3,f4,f5⟩:=he.fn;rw[<- q4]at h3;rw[<- q5];refine Vl (congrArg (λx=>stepG P main x w) e) ?_;exact stepG_entry q1 q2 q3 h2 f1 f2 f3 f4 f5 (by rw[h3];exact run_add_entry hc hz) (by rw[h3,events_add_entry hc hz];rfl) (sync_rw ad)
theorem MM{v:Int}{k:IntKind}{ad:Addr}(h:cr g=some (f,#[.pointer (some ad)])) (he:Ext P f (Xk (.int k))) (hc:w.cell? ad=some (.int k v)):
  stepG P main g w= .go (fin g (.int k v)) w #[⟨.cell ad,false,true⟩]:=by
 obtain⟨o,aD,l6,h1,h2,h3⟩:=cr.out h;obtain⟨b,a,ops,i,rest,kk,cs,e,q1,q2,q3,q4,q5,q6,_⟩:=ready.out h1;obtain⟨fn,f1,f2,f3,f4,f5⟩:=he.fn;rw[<- q4]at h3;rw[<- q5];refine Vl (congrArg (λx=>stepG P main x w) e) ?_;obtain⟨x,rfl⟩:∃x,aD=#[x]:=by
  have:aD.size=1:=by have:=congrArg Zb h3;simpa using this
  exact Array.size_eq_one_iff.1 this
 exact stepG_load_atomic q1 q2 q3 h2 f1 f2 f3 f4 k f5 (by simpa using h3) hc
theorem apP{v:Int}{u:Value}{k:IntKind}{ad:Addr}(h:cr g=some (f,#[.pointer (some ad), .int k v])) (he:Ext P f Xc) (hc:w.cell? ad=some u) (hz:w.frozen? ad=false):
  stepG P main g w= .go (fin g (.tuple #[])) (w.setCell ad (.int k v)) #[⟨.cell ad,true,true⟩]:=by
 obtain⟨o,aD,l6,h1,h2,h3⟩:=cr.out h;obtain⟨b,a,ops,i,rest,kk,cs,e,q1,q2,q3,q4,q5,q6,_⟩:=ready.out h1;obtain⟨fn,f1,f2,f3,f4,f5⟩:=he.fn;rw[<- q4]at h3;rw[<- q5];refine Vl (congrArg (λx=>stepG P main x w) e) ?_;obtain⟨x,y,rfl⟩:∃x y,aD=#[x,y]:=by
  have:aD.toList.length=2:=by have:=congrArg Zb h3;simpa using this
  obtain⟨l⟩:=aD
  match l,this with
  |[x,y],_=>exact⟨x,y,rfl⟩
 have vo:a.eval x= .pointer (some ad)/\a.eval y= .int k v:=by simpa using h3
 exact stepG_store_atomic q1 q2 q3 h2 f1 f2 f3 f4 f5 vo.1 vo.2 hc hz
theorem apI{v n:Int}{k:IntKind}{ad:Addr}(h:cr g=some (f,#[.pointer (some ad), .int k v, .int k n])) (he:Ext P f (Wi (.int k))) (hc:w.cell? ad=some (.int k v)) (hz:w.frozen? ad=false):
  stepG P main g w= .go (fin g (.bool true)) (w.setCell ad (.int k n)) #[⟨.cell ad,false,true⟩,⟨.cell ad,true,true⟩]:=by
 obtain⟨o,aD,l6,h1,h2,h3⟩:=cr.out h;obtain⟨b,a,ops,i,rest,kk,cs,e,q1,q2,q3,q4,q5,q6,_⟩:=ready.out h1;obtain⟨fn,f1,f2,f3,f4,f5⟩:=he.fn;rw[<- q4]at h3;rw[<- q5];refine Vl (congrArg (λx=>stepG P main x w) e) ?_;exact stepG_entry q1 q2 q3 h2 f1 f2 f3 f4 f5 (by rw[h3,casT_eq];exact run_cas_hit_entry hc hz) (by rw[h3,casT_eq,events_cas_hit_entry hc hz];rfl) (sync_rw ad)
theorem apJ{v old n:Int}{k:IntKind}{ad:Addr}(h:cr g=some (f,#[.pointer (some ad), .int k old, .int k n])) (he:Ext P f (Wi (.int k))) (hc:w.cell? ad=some (.int k v)) (hz:w.frozen? ad=false) (aE:¬v=old):
  stepG P main g w= .go (fin g (.bool false)) w #[⟨.cell ad,false,true⟩]:=by
 obtain⟨o,aD,l6,h1,h2,h3⟩:=cr.out h;obtain⟨b,a,ops,i,rest,kk,cs,e,q1,q2,q3,q4,q5,q6,_⟩:=ready.out h1;obtain⟨fn,f1,f2,f3,f4,f5⟩:=he.fn;rw[<- q4]at h3;rw[<- q5];refine Vl (congrArg (λx=>stepG P main x w) e) ?_;exact stepG_entry q1 q2 q3 h2 f1 f2 f3 f4 f5 (by rw[h3,casT_eq];exact run_cas_miss_entry hc hz aE) (by rw[h3,casT_eq,events_cas_miss_entry hc hz aE];rfl) (sync_r ad)
theorem apN{n:Int}{x y:Value}{ad:Addr}(h:cr g=some (f,#[.pointer (some ad),x,y])) (he:Ext P f Xa) (hc:w.cell? ad=some (.int .u32 n)) (hz:w.frozen? ad=false):
  stepG P main g w= .go (fin g (.tuple #[])) (w.setCell ad (.int .u32 (Zp.wrap (n+1)))) (semEvents ad):=by
 obtain⟨o,aD,l6,h1,h2,h3⟩:=cr.out h;obtain⟨b,a,ops,i,rest,kk,cs,e,q1,q2,q3,q4,q5,q6,_⟩:=ready.out h1;obtain⟨fn,f1,f2,f3,f4,f5⟩:=he.fn;rw[<- q4]at h3;rw[<- q5];refine Vl (congrArg (λx=>stepG P main x w) e) ?_;exact stepG_semrelease q1 q2 q3 h2 f1 f2 f3 f4 f5 (by rw[h3];rfl) hc hz
theorem apM{n:Int}{x:Value}{ad:Addr}(h:cr g=some (f,#[.pointer (some ad),x])) (he:Ext P f VT) (hc:w.cell? ad=some (.int .u32 n)) (hn:n≠0) (hz:w.frozen? ad=false):
  stepG P main g w= .go (fin g (.tuple #[])) (w.setCell ad (.int .u32 (n-1))) (semEvents ad):=by
 obtain⟨o,aD,l6,h1,h2,h3⟩:=cr.out h;obtain⟨b,a,ops,i,rest,kk,cs,e,q1,q2,q3,q4,q5,q6,_⟩:=ready.out h1;obtain⟨fn,f1,f2,f3,f4,f5⟩:=he.fn;rw[<- q4]at h3;rw[<- q5];refine Vl (congrArg (λx=>stepG P main x w) e) ?_;exact stepG_semacquire q1 q2 q3 h2 f1 f2 f3 f4 f5 (by rw[h3];rfl) hc hn hz
theorem apO{x:Value}{ad:Addr}(h:cr g=some (f,#[.pointer (some ad),x])) (he:Ext P f VT) (hc:w.cell? ad=some (.int .u32 0)):
  stepG P main g w= .go {g with status:= .blocked} w #[]:=by
 obtain⟨o,aD,l6,h1,h2,h3⟩:=cr.out h;obtain⟨b,a,ops,i,rest,kk,cs,e,q1,q2,q3,q4,q5,q6,_⟩:=ready.out h1;obtain⟨fn,f1,f2,f3,f4,f5⟩:=he.fn;rw[<- q4]at h3;rw[e];exact stepG_semacquire_wait q1 q2 h2 f1 f2 f3 f4 f5 (by rw[h3];rfl) hc
theorem GK{ad:Addr}(mk:Addr->Mark)(hm:∀ad g,mk ad≠ .extern g)(h:cr g=some (f,#[.pointer (some ad)])) (he:Ext P f (Vj mk)):
  stepG P main g w= .go (fin g (.tuple #[])) w #[⟨.mark (mk ad),false,true⟩]:=by
 obtain⟨o,aD,l6,h1,h2,h3⟩:=cr.out h;obtain⟨b,a,ops,i,rest,kk,cs,e,q1,q2,q3,q4,q5,q6,_⟩:=ready.out h1;obtain⟨fn,f1,f2,f3,f4,f5⟩:=he.fn;rw[<- q4]at h3;rw[<- q5];refine Vl (congrArg (λx=>stepG P main x w) e) ?_;exact stepG_markAt mk hm q1 q2 q3 h2 f1 f2 f3 f4 f5 (by rw[h3];rfl)
def oX (g:Goroutine):Option (TypeId×TypeId×Value):=match ready g with
 |some {op:= .convert s d x, .. }=>some (s,d,g.frame.eval x)
 |_=>none
theorem GL{src dst t:TypeId}{ad:Addr}{v:Value}(h:oX g=some (src,dst, .pointer (some ad)))(hs:P.underlying src=some (.pointer t))(hd:P.underlying dst=some .unsafePointer)(aW:(P.info? t).map (λi=>decide (i.size=0))=some false)(hc:w.cell? ad=some v):
  stepG P main g w= .go (fin g (.pointer (some ad))) w #[]:=by
 obtain⟨o,x,h1,h2,h3⟩:∃o x,ready g=some o/\o.op= .convert src dst x/\g.frame.eval x= .pointer (some ad):=by
  unfold oX at h;split at h
  ·rename_i s d x _ _ _ _ ho;simp only[Te,UH]at h;obtain⟨rfl,rfl,h⟩:=h;exact⟨_,x,ho,rfl,h⟩
  ·cases h
 obtain⟨b,a,ops,i,rest,kk,cs,e,q1,q2,q3,q4,q5,q6,_⟩:=ready.out h1;rw[<- q4]at h3;rw[<- q5];refine Vl (congrArg (λx=>stepG P main x w) e) ?_;have hr:(execOp a.eval o).run P w= .ok (.value (.pointer (some ad))) w:=by
  unfold execOp;simp only[h2,h3];simp[run_convert_to_unsafe hs hd aW hc]
 have cu:(execOp a.eval o).events P w #[]=#[]:=by
  unfold execOp;simp only[h2,h3];simp[events_convert_to_unsafe hs hd aW hc]
 rw[stepG_value q1 q2 q3 hr];unfold listed;rw[cu,seen_none]
end
open Go.Proofs
section
variable {P:Program}
theorem MI{Stop:Nat->Goroutine->Prop}{d:Nat}{g g':Goroutine}{es:Array Event}(hr:g.status= .running)(hm:∀e∈es,VU e=true)(h:∀w,stepG P false g w= .go g' w es)(hs:∃m,cR P Stop m (deafBehind d es) g'):∃m,cR P Stop m d g:=by
 obtain⟨m,hs⟩:=hs;exact⟨m+1, .inr ⟨hr,g',es,hm,h,hs⟩⟩
theorem GJ{main:Bool}{g:Goroutine}{f:FuncId}{w:World}{m:Mark}(hm:∀g,m≠ .extern g)(h:cr g=some (f,#[])) (he:Ext P f (λ_=>do Zg m;pure Wt)):stepG P main g w= .go (fin g (.tuple #[])) w #[⟨.mark m,false,true⟩]:=by
 obtain⟨o,xs,l6,h1,h2,h3⟩:=cr.out h;obtain⟨b,a,ops,i,rest,kk,cs,e,q1,q2,q3,q4,q5,q6,_⟩:=ready.out h1;obtain⟨fn,f1,f2,f3,f4,f5⟩:=he.fn;rw[<- q4]at h3;rw[<- q5];refine Vl (congrArg (λx=>stepG P main x w) e) ?_;exact stepG_mark0 m hm q1 q2 q3 h2 f1 f2 f3 f4 f5
theorem ab1{main:Bool}{g:Goroutine}{f:FuncId}{w:World}{v:Value}{vs:Array Value}(h:cr g=some (f,vs))(he:Ext P f (λ_=>pure v)):stepG P main g w= .go (fin g v) w #[]:=by
 obtain⟨o,xs,l6,h1,h2,h3⟩:=cr.out h;obtain⟨b,a,ops,i,rest,kk,cs,e,q1,q2,q3,q4,q5,q6,_⟩:=ready.out h1;obtain⟨fn,f1,f2,f3,f4,f5⟩:=he.fn;rw[<- q5];refine Vl (congrArg (λx=>stepG P main x w) e) ?_;exact stepG_entry_pure v q1 q2 q3 h2 f1 f2 f3 f4 f5
theorem WgAt.st{Wg:Nat}{w:World}{st sm:Int}(h:WgAt P Wg w st sm):w.cell? ⟨Wg,0,none⟩=some (.int .u64 st)/\w.cell? ⟨Wg,1,none⟩=some (.int .u32 sm)/\w.frozen? ⟨Wg,0,none⟩=false/\w.frozen? ⟨Wg,1,none⟩=false:=by
 unfold WgAt wgBlock at h;refine⟨?_, ?_, ?_, ?_⟩<;>simp[Uj,YX,h]
theorem LH{m:Mark}(hm:m= .disable\/m= .enable):∀e∈(#[⟨.mark m,false,true⟩]:Array Event),VU e=true:=by
 intro e he;simp only[Tx,SK,SU,or_false]at he;subst he;rcases hm with rfl|rfl<;>rfl
end
set_option maxRecDepth 100000
theorem aga:Ext SD 110 (Vj .releaseMerge):=⟨⟨Tryz.f110,by kernel_rfl,by kernel_rfl,by kernel_rfl,by kernel_rfl,by kernel_rfl⟩⟩
theorem Ip:Ext SD 111 (λ_=>do Zg .disable;pure Wt):=⟨⟨Tryz.f111,by kernel_rfl,by kernel_rfl,by kernel_rfl,by kernel_rfl,by kernel_rfl⟩⟩
theorem agb:Ext SD 112 (λ_=>do Zg .enable;pure Wt):=⟨⟨Tryz.f112,by kernel_rfl,by kernel_rfl,by kernel_rfl,by kernel_rfl,by kernel_rfl⟩⟩
theorem OS:Ext SD 113 (λ_=>pure (.bool false)):=⟨⟨Tryz.f113,by kernel_rfl,by kernel_rfl,by kernel_rfl,by kernel_rfl,by kernel_rfl⟩⟩
theorem agc:Ext SD 118 (Vj .read):=⟨⟨Tryz.f118,by kernel_rfl,by kernel_rfl,by kernel_rfl,by kernel_rfl,by kernel_rfl⟩⟩
theorem agd:Ext SD 122 Xa:=⟨⟨Tryz.f122,by kernel_rfl,by kernel_rfl,by kernel_rfl,by kernel_rfl,by kernel_rfl⟩⟩
theorem age:Ext SD 123 (Vj .acquire):=⟨⟨Tryz.f123,by kernel_rfl,by kernel_rfl,by kernel_rfl,by kernel_rfl,by kernel_rfl⟩⟩
theorem agf:Ext SD 126 (Vj .write):=⟨⟨Tryz.f126,by kernel_rfl,by kernel_rfl,by kernel_rfl,by kernel_rfl,by kernel_rfl⟩⟩
theorem OT:Ext SD 127 VT:=⟨⟨Tryz.f127,by kernel_rfl,by kernel_rfl,by kernel_rfl,by kernel_rfl,by kernel_rfl⟩⟩
theorem OU:Ext SD 134 (Xb (ZT .add) .u64 true):=⟨⟨Tryz.f134,by kernel_rfl,by kernel_rfl,by kernel_rfl,by kernel_rfl,by kernel_rfl⟩⟩
theorem Iq:Ext SD 135 (Xk (.int .u64)):=⟨⟨Tryz.f135,by kernel_rfl,by kernel_rfl,by kernel_rfl,by kernel_rfl,by kernel_rfl⟩⟩
theorem agh:Ext SD 136 Xc:=⟨⟨Tryz.f136,by kernel_rfl,by kernel_rfl,by kernel_rfl,by kernel_rfl,by kernel_rfl⟩⟩
theorem OV:Ext SD 137 (Wi (.int .u64)):=⟨⟨Tryz.f137,by kernel_rfl,by kernel_rfl,by kernel_rfl,by kernel_rfl,by kernel_rfl⟩⟩
theorem acJ:SD.underlying 158=some (.pointer 147):=by kernel_rfl
theorem GU:SD.underlying 160=some .unsafePointer:=by kernel_rfl
theorem i182:(SD.info? 147).map (λi=>decide (i.size=0))=some false:=by kernel_rfl
noncomputable def aoH:Frame:={(default:Frame)with fn:=184,defers:=[],mode:= .panicking [goexitEntry]}
noncomputable def aoD (fn:FuncId)(tmps:Array Value)(todo:List Item):Frame:={fn,tmps,todo,defers:=[],mode:= .returning,kind:= .deferred,roundOf:=none}
noncomputable def pW (Wg o:Nat):Value:= .pointer (some ⟨Wg,o,none⟩)
section
variable (Wg:Nat)(tmps:Array Value)(todo:List Item)
noncomputable def d0:Goroutine:=G (Frame.enter SD 98 #[pW Wg 0] .deferred) [aoD 97 tmps todo,aoH]
noncomputable def d14:Goroutine:=cI SD false 14 (d0 Wg tmps todo)
noncomputable def d15:Goroutine:=fin (d14 Wg tmps todo) (pW Wg 0)
noncomputable def d16:Goroutine:=fin (d15 Wg tmps todo) (.tuple #[])
noncomputable def d19:Goroutine:=cI SD false 3 (d16 Wg tmps todo)
noncomputable def d20:Goroutine:=fin (d19 Wg tmps todo) (.tuple #[])
noncomputable def d31:Goroutine:=cI SD false 11 (d20 Wg tmps todo)
noncomputable def d32:Goroutine:=fin (d31 Wg tmps todo) (.bool false)
noncomputable def d54:Goroutine:=cI SD false 22 (d32 Wg tmps todo)
noncomputable def d55 (s:Int):Goroutine:=fin (d54 Wg tmps todo) (.int .u64 s)
noncomputable def d158:Goroutine:=cI SD false 103 (d55 Wg tmps todo 1)
noncomputable def d159:Goroutine:=fin (d158 Wg tmps todo) (.int .u64 1)
noncomputable def d179:Goroutine:=cI SD false 20 (d159 Wg tmps todo)
noncomputable def d180:Goroutine:=fin (d179 Wg tmps todo) (.tuple #[])
noncomputable def Ba:Goroutine:=cI SD false 27 (d180 Wg tmps todo)
noncomputable def yE:Goroutine:=fin (Ba Wg tmps todo) (.tuple #[])
set_option maxRecDepth 100000
variable (w:World)
theorem x0:(fV SD false w 14 (d0 Wg tmps todo),oG SD false 14 (d0 Wg tmps todo),bO (d14 Wg tmps todo),bO (d15 Wg tmps todo))=(fM SD false w 14 (d0 Wg tmps todo),true,true,true):=by kernel_rfl
theorem x14:oX (d14 Wg tmps todo)=some (158,160,pW Wg 0):=by kernel_rfl
theorem x15:cr (d15 Wg tmps todo)=some (110,#[pW Wg 0]):=by kernel_rfl
theorem G7:(fV SD false w 3 (d16 Wg tmps todo),iW SD false 3 (d16 Wg tmps todo),bO (d19 Wg tmps todo),jR SD false 3 0 (d16 Wg tmps todo))=(fM SD false w 3 (d16 Wg tmps todo),true,true,0):=by kernel_rfl
theorem x19:cr (d19 Wg tmps todo)=some (111,#[]):=by kernel_rfl
theorem G9:(fV SD false w 11 (d20 Wg tmps todo),iW SD false 11 (d20 Wg tmps todo),bO (d31 Wg tmps todo),jR SD false 11 1 (d20 Wg tmps todo))=(fM SD false w 11 (d20 Wg tmps todo),true,true,1):=by kernel_rfl
theorem x31:cr (d31 Wg tmps todo)=some (113,#[]):=by kernel_rfl
theorem Ha:(fV SD false w 22 (d32 Wg tmps todo),iW SD false 22 (d32 Wg tmps todo),bO (d54 Wg tmps todo),jR SD false 22 1 (d32 Wg tmps todo))=(fM SD false w 22 (d32 Wg tmps todo),true,true,1):=by kernel_rfl
theorem x54:cr (d54 Wg tmps todo)=some (134,#[pW Wg 0, .int .u64 18446744069414584320]):=by kernel_rfl
theorem q30:(fV SD false w 94 (d55 Wg tmps todo (3* 4294967296)),iW SD false 94 (d55 Wg tmps todo (3* 4294967296)),(cI SD false 94 (d55 Wg tmps todo (3* 4294967296))).status,jR SD false 94 1 (d55 Wg tmps todo (3* 4294967296)))=(fM SD false w 94 (d55 Wg tmps todo (3* 4294967296)),true, .finished,0):=by kernel_rfl
theorem q31:(fV SD false w 94 (d55 Wg tmps todo (3* 4294967296+1)),iW SD false 94 (d55 Wg tmps todo (3* 4294967296+1)),(cI SD false 94 (d55 Wg tmps todo (3* 4294967296+1))).status,jR SD false 94 1 (d55 Wg tmps todo (3* 4294967296+1)))=(fM SD false w 94 (d55 Wg tmps todo (3* 4294967296+1)),true, .finished,0):=by kernel_rfl
theorem q20:(fV SD false w 94 (d55 Wg tmps todo (2* 4294967296)),iW SD false 94 (d55 Wg tmps todo (2* 4294967296)),(cI SD false 94 (d55 Wg tmps todo (2* 4294967296))).status,jR SD false 94 1 (d55 Wg tmps todo (2* 4294967296)))=(fM SD false w 94 (d55 Wg tmps todo (2* 4294967296)),true, .finished,0):=by kernel_rfl
theorem q21:(fV SD false w 94 (d55 Wg tmps todo (2* 4294967296+1)),iW SD false 94 (d55 Wg tmps todo (2* 4294967296+1)),(cI SD false 94 (d55 Wg tmps todo (2* 4294967296+1))).status,jR SD false 94 1 (d55 Wg tmps todo (2* 4294967296+1)))=(fM SD false w 94 (d55 Wg tmps todo (2* 4294967296+1)),true, .finished,0):=by kernel_rfl
theorem q10:(fV SD false w 94 (d55 Wg tmps todo (1* 4294967296)),iW SD false 94 (d55 Wg tmps todo (1* 4294967296)),(cI SD false 94 (d55 Wg tmps todo (1* 4294967296))).status,jR SD false 94 1 (d55 Wg tmps todo (1* 4294967296)))=(fM SD false w 94 (d55 Wg tmps todo (1* 4294967296)),true, .finished,0):=by kernel_rfl
theorem q11:(fV SD false w 94 (d55 Wg tmps todo (1* 4294967296+1)),iW SD false 94 (d55 Wg tmps todo (1* 4294967296+1)),(cI SD false 94 (d55 Wg tmps todo (1* 4294967296+1))).status,jR SD false 94 1 (d55 Wg tmps todo (1* 4294967296+1)))=(fM SD false w 94 (d55 Wg tmps todo (1* 4294967296+1)),true, .finished,0):=by kernel_rfl
theorem q00:(fV SD false w 94 (d55 Wg tmps todo 0),iW SD false 94 (d55 Wg tmps todo 0),(cI SD false 94 (d55 Wg tmps todo 0)).status,jR SD false 94 1 (d55 Wg tmps todo 0))=(fM SD false w 94 (d55 Wg tmps todo 0),true, .finished,0):=by kernel_rfl
theorem Hb:(fV SD false w 103 (d55 Wg tmps todo 1),iW SD false 103 (d55 Wg tmps todo 1),bO (d158 Wg tmps todo),jR SD false 103 1 (d55 Wg tmps todo 1))=(fM SD false w 103 (d55 Wg tmps todo 1),true,true,1):=by kernel_rfl
theorem arp:cr (d158 Wg tmps todo)=some (135,#[pW Wg 0]):=by kernel_rfl
theorem G6:(fV SD false w 20 (d159 Wg tmps todo),iW SD false 20 (d159 Wg tmps todo),bO (d179 Wg tmps todo),jR SD false 20 1 (d159 Wg tmps todo))=(fM SD false w 20 (d159 Wg tmps todo),true,true,1):=by kernel_rfl
theorem arq:cr (d179 Wg tmps todo)=some (136,#[pW Wg 0, .int .u64 0]):=by kernel_rfl
theorem G8:(fV SD false w 27 (d180 Wg tmps todo),iW SD false 27 (d180 Wg tmps todo),bO (Ba Wg tmps todo),jR SD false 27 1 (d180 Wg tmps todo))=(fM SD false w 27 (d180 Wg tmps todo),true,true,1):=by kernel_rfl
theorem ars:cr (Ba Wg tmps todo)=some (122,#[pW Wg 1, .bool false, .int .i64 0]):=by kernel_rfl
theorem G_:(fV SD false w 24 (yE Wg tmps todo),iW SD false 24 (yE Wg tmps todo),(cI SD false 24 (yE Wg tmps todo)).status,jR SD false 24 1 (yE Wg tmps todo))=(fM SD false w 24 (yE Wg tmps todo),true, .finished,0):=by kernel_rfl
theorem xm:mayWake SD (Ba Wg tmps todo)=true:=by kernel_rfl
end
section
variable (Wg:Nat)(tmps:Array Value)(todo:List Item)
theorem ek{α β γ δ:Type}{a a':α}{b b':β}{c c':γ}{d d':δ}(h:(a,b,c,d)=(a',b',c',d')):a=a'/\b=b'/\c=c'/\d=d':=by
 simpa[UH]using h
theorem wV{s:Int}(h:∀w,(fV SD false w 94 (d55 Wg tmps todo s),iW SD false 94 (d55 Wg tmps todo s),(cI SD false 94 (d55 Wg tmps todo s)).status,jR SD false 94 1 (d55 Wg tmps todo s))=(fM SD false w 94 (d55 Wg tmps todo s),true, .finished,0)):∃q,QuitsD SD q 1 (d55 Wg tmps todo s):=
 Gu 94 1 _ (λw=>(ek (h w)).1) (ek (h default)).2.1 (Mr (ek (h default)).2.2.1 (ek (h default)).2.2.2)
theorem af3:Dr SD Wg 1 (Ba Wg tmps todo):=by
 refine⟨rfl,bO.out (ek (G8 Wg tmps todo default)).2.2.1,xm Wg tmps todo,yE Wg tmps todo,λw hw=> ?_, ?_⟩
 ·exact apN (n:=0) (ars Wg tmps todo) agd hw.st.2.1 hw.st.2.2.2
 ·exact Gu 24 1 _ (λw=>(ek (G_ Wg tmps todo w)).1) (ek (G_ Wg tmps todo default)).2.1 (Mr (ek (G_ Wg tmps todo default)).2.2.1 (ek (G_ Wg tmps todo default)).2.2.2)
theorem af4:Ds SD Wg 1 (d179 Wg tmps todo):=by
 refine⟨rfl,bO.out (ek (G6 Wg tmps todo default)).2.2.1,d180 Wg tmps todo,λw hw=> ?_, ?_⟩
 ·exact apP (arq Wg tmps todo) agh hw.st.1 hw.st.2.2.1
 ·refine wi 27 1 _ (λw=>(ek (G8 Wg tmps todo w)).1) (ek (G8 Wg tmps todo default)).2.1 ?_;rw[(ek (G8 Wg tmps todo default)).2.2.2];exact⟨0,af3 Wg tmps todo⟩
theorem af2:Dq SD Wg 1 (d158 Wg tmps todo):=by
 refine⟨rfl,bO.out (ek (Hb Wg tmps todo default)).2.2.1,d159 Wg tmps todo,λw hw=> ?_, ?_⟩
 ·exact MM (arp Wg tmps todo) Iq hw.st.1
 ·refine wi 20 1 _ (λw=>(ek (G6 Wg tmps todo w)).1) (ek (G6 Wg tmps todo default)).2.1 ?_;rw[(ek (G6 Wg tmps todo default)).2.2.2];exact⟨0,af4 Wg tmps todo⟩
theorem af0:Ax SD Wg 1 (d54 Wg tmps todo):=by
 refine⟨rfl,bO.out (ek (Ha Wg tmps todo default)).2.2.1,λv wt up hv=>⟨d55 Wg tmps todo ((v:Int)* KK+wt),λw hw=> ?_,λh=> ?_,λh=> ?_⟩⟩
 ·have e:Ts.wrap ((((v+1:Nat):Int)* KK+wt)+18446744069414584320)=(v:Int)* KK+wt:=by
   have h1:Ts.bits=64:=rfl;have h2:Ts.signed=false:=rfl;unfold Wy KK;rw[h1,h2];simp;omega
  have:=ab0 (P:=SD) (main:=false) (w:=w) (x54 Wg tmps todo) OU hw.st.1 hw.st.2.2.1;rw[e]at this;exact this
 ·obtain⟨rfl,rfl⟩:=h;refine wi 103 1 _ (λw=>(ek (Hb Wg tmps todo w)).1) (ek (Hb Wg tmps todo default)).2.1 ?_;have e:=(ek (Hb Wg tmps todo default)).2.2.2;exact⟨0,by rw[show (((0:Nat):Int)* KK+((1:Nat):Int))=1 from rfl,e];exact af2 Wg tmps todo⟩
 ·have hv4:v=0\/v=1\/v=2\/v=3:=by omega
  have gH:wt=0\/wt=1:=by omega
  rcases hv4 with rfl|rfl|rfl|rfl<;>rcases gH with rfl|rfl
  ·exact wV Wg tmps todo (q00 Wg tmps todo)
  ·exact absurd ⟨rfl,rfl⟩ h
  ·exact wV Wg tmps todo (q10 Wg tmps todo)
  ·exact wV Wg tmps todo (q11 Wg tmps todo)
  ·exact wV Wg tmps todo (q20 Wg tmps todo)
  ·exact wV Wg tmps todo (q21 Wg tmps todo)
  ·exact wV Wg tmps todo (q30 Wg tmps todo)
  ·exact wV Wg tmps todo (q31 Wg tmps todo)
theorem af1:Dx SD Wg (d15 Wg tmps todo):=by
 refine⟨bO.out (ek (x0 Wg tmps todo default)).2.2.2,d16 Wg tmps todo,λw=>GK .releaseMerge (λ_ _ h=>by cases h) (x15 Wg tmps todo) aga, ?_⟩;refine wi 3 0 _ (λw=>(ek (G7 Wg tmps todo w)).1) (ek (G7 Wg tmps todo default)).2.1 ?_;rw[(ek (G7 Wg tmps todo default)).2.2.2];refine MI (g:=d19 Wg tmps todo) (g':=d20 Wg tmps todo) (bO.out (ek (G7 Wg tmps todo default)).2.2.1) (LH (.inl rfl)) (λw=>GJ (λ_ h=>by cases h) (x19 Wg tmps todo) Ip) ?_;refine wi 11 1 (d20 Wg tmps todo) (λw=>(ek (G9 Wg tmps todo w)).1) (ek (G9 Wg tmps todo default)).2.1 ?_;rw[(ek (G9 Wg tmps todo default)).2.2.2];refine MI (es:=#[]) (g:=d31 Wg tmps todo) (g':=d32 Wg tmps todo) (bO.out (ek (G9 Wg tmps todo default)).2.2.1) (by simp) (λw=>ab1 (x31 Wg tmps todo) OS) ?_;refine wi 22 1 (d32 Wg tmps todo) (λw=>(ek (Ha Wg tmps todo w)).1) (ek (Ha Wg tmps todo default)).2.1 ?_;rw[(ek (Ha Wg tmps todo default)).2.2.2];exact⟨0,af0 Wg tmps todo⟩
theorem af5{J:View->Goroutine->Prop}(C:yd SD false J){V:View}{c:Nat}(hr:V.role= .work c Wg [])(hd:V.deaf=0):J V (d0 Wg tmps todo):=by
 have C':Closed false SD false J:={C with more:=λh=>by cases h};have hx:=ek (x0 Wg tmps todo default);refine sX C' 14 _ (λw=>(ek (x0 Wg tmps todo w)).1) hx.2.1 ?_;refine C.slip V _ (d15 Wg tmps todo) c Wg hr (bO.out hx.2.2.1) (λw st hw hW=> ?_) (C.done V _ c Wg hr hd (af1 Wg tmps todo));exact GL (x14 Wg tmps todo) acJ GU i182 hW.st.1
end
section
variable (Wg:Nat)(cs:List Frame)(main:Bool)
noncomputable def a0:Goroutine:=G (Frame.enter SD 96 #[pW Wg 0, .int .i64 1] .normal) cs
noncomputable def DL:Goroutine:=cI SD main 12 (a0 Wg cs)
noncomputable def AU:Goroutine:=fin (DL Wg cs main) (.tuple #[])
noncomputable def DM:Goroutine:=cI SD main 11 (AU Wg cs main)
noncomputable def AX:Goroutine:=fin (DM Wg cs main) (.bool false)
noncomputable def DN:Goroutine:=cI SD main 22 (AX Wg cs main)
noncomputable def nc (s:Int):Goroutine:=fin (DN Wg cs main) (.int .u64 s)
noncomputable def nb (s:Int):Goroutine:=cI SD main 87 (nc Wg cs main s)
noncomputable def HA:Goroutine:=cI SD main 52 (nc Wg cs main 4294967296)
noncomputable def AR:Goroutine:=fin (HA Wg cs main) (pW Wg 1)
noncomputable def AT:Goroutine:=fin (AR Wg cs main) (.tuple #[])
noncomputable def AW:Goroutine:=cI SD main 39 (AT Wg cs main)
set_option maxRecDepth 100000
variable (w:World)
theorem y0:(fV SD main w 12 (a0 Wg cs),oG SD main 12 (a0 Wg cs),bO (DL Wg cs main),cr (DL Wg cs main))=(fM SD main w 12 (a0 Wg cs),true,true,some (111,#[])):=by kernel_rfl
theorem y13:(fV SD main w 11 (AU Wg cs main),oG SD main 11 (AU Wg cs main),bO (DM Wg cs main),cr (DM Wg cs main))=(fM SD main w 11 (AU Wg cs main),true,true,some (113,#[])):=by kernel_rfl
theorem y25:(fV SD main w 22 (AX Wg cs main),oG SD main 22 (AX Wg cs main),bO (DN Wg cs main),cr (DN Wg cs main))=(fM SD main w 22 (AX Wg cs main),true,true,some (134,#[pW Wg 0, .int .u64 4294967296])):=by kernel_rfl
noncomputable def xO (g:Goroutine):GStep×FrameMode×Nat×CallKind×List Deferred×Bool:=(.go (gI SD main g) w #[⟨.mark .enable,false,true⟩],(gI SD main g).frame.mode,(gI SD main g).frame.fn,(gI SD main g).frame.kind,(gI SD main g).frame.defers,bO (gI SD main g))
theorem Nf:(fV SD main w 87 (nc Wg cs main (2* 4294967296)),oG SD main 87 (nc Wg cs main (2* 4294967296)),bO (nb Wg cs main (2* 4294967296)),xO main w (nb Wg cs main (2* 4294967296)))=(fM SD main w 87 (nc Wg cs main (2* 4294967296)),true,true,stepG SD main (nb Wg cs main (2* 4294967296)) w, .returning,96, .normal,[],true):=by kernel_rfl
theorem Ng:(fV SD main w 87 (nc Wg cs main (3* 4294967296)),oG SD main 87 (nc Wg cs main (3* 4294967296)),bO (nb Wg cs main (3* 4294967296)),xO main w (nb Wg cs main (3* 4294967296)))=(fM SD main w 87 (nc Wg cs main (3* 4294967296)),true,true,stepG SD main (nb Wg cs main (3* 4294967296)) w, .returning,96, .normal,[],true):=by kernel_rfl
theorem Nh:(fV SD main w 87 (nc Wg cs main (4* 4294967296)),oG SD main 87 (nc Wg cs main (4* 4294967296)),bO (nb Wg cs main (4* 4294967296)),xO main w (nb Wg cs main (4* 4294967296)))=(fM SD main w 87 (nc Wg cs main (4* 4294967296)),true,true,stepG SD main (nb Wg cs main (4* 4294967296)) w, .returning,96, .normal,[],true):=by kernel_rfl
theorem acX:(fV SD main w 52 (nc Wg cs main 4294967296),oG SD main 52 (nc Wg cs main 4294967296),bO (HA Wg cs main),oX (HA Wg cs main))=(fM SD main w 52 (nc Wg cs main 4294967296),true,true,some (165,160,pW Wg 1)):=by kernel_rfl
theorem art:cr (AR Wg cs main)=some (118,#[pW Wg 1]):=by kernel_rfl
theorem Nd:(fV SD main w 39 (AT Wg cs main),oG SD main 39 (AT Wg cs main),bO (AW Wg cs main),xO main w (AW Wg cs main))=(fM SD main w 39 (AT Wg cs main),true,true,stepG SD main (AW Wg cs main) w, .returning,96, .normal,[],true):=by kernel_rfl
theorem yr1:bO (AR Wg cs main)=true:=by kernel_rfl
theorem GV:∃t,SD.underlying 165=some (.pointer t)/\(SD.info? t).map (λi=>decide (i.size=0))=some false:=⟨145,by kernel_rfl,by kernel_rfl⟩
theorem ag6:∃fn,SD.funcs[96]?=some fn/\fn.results=#[]:=⟨Tryz.f96,by kernel_rfl,by kernel_rfl⟩
end
section
variable {P:Program}{V:View}
theorem apY{w:World}{b o:Nat}{v:Value}{c:Array Value}{el:TypeId}(hw:Sat V w)(ho:V.own b=some (.cells c el (0,0)))(cF:V.ab b o=none)(JO:V.role.chan≠some b):
  dg V w (V.upd b (.cells (c.setIfInBounds o v) el (0,0))) (w.setCell ⟨b,o,none⟩ v) #[⟨.cell ⟨b,o,none⟩,false,true⟩,⟨.cell ⟨b,o,none⟩,true,true⟩]:=by
 refine⟨hw.acN ho cF,rfl,rfl,rfl,by rw[C4];exact SO _,λb' dG e=>vG _ _ _ (λx=> ?_),λb' dG e=> ?_,λ_ _ _ e=>e,λ_ _ _ e=> .inl e,λev cu=> ?_,by simp[deafBehind];rfl,rfl,λc' x bc e=>by rw[<- e];simp only[View.upd,ite_eq_right_iff];intro x';subst x';exact absurd bc JO,λev cu=> ?_⟩
 ·have x':b=b':=x;subst x';rw[ho]at e;cases e
 ·have:b'≠b:=by intro x;subst x;rw[ho]at e;cases e
  simp only[View.upd,this,if_false];exact e
 ·simp only[Tx,SK,SU,or_false]at cu;rcases cu with rfl|rfl
  ·exact⟨.inr (.inl (by show V.own b≠none;rw[ho];simp)), .inl rfl⟩
  ·exact⟨.inr ⟨by show V.own b≠none;rw[ho];simp,cF⟩, .inl rfl⟩
 ·simp only[Tx,SK,SU,or_false]at cu;rcases cu with rfl|rfl<;>(show b<_;rw[C4];exact hw.lt ho)
theorem Closed.said{lv main:Bool}{J:View->Goroutine->Prop}(C:Closed lv P main J){g g':Goroutine}{a:Addr}(hr:g.status= .running)(ha:V.own a.block≠none/\V.ab a.block a.off=none)(h:∀w,stepG P main g w= .go g' w #[⟨.mark (.read a),false,true⟩]) (hJ:J V g'):J V g:=by
 refine C.step _ _ hr λw hw=> ?_;have hs:=apj (P:=P) (V:=V) (k:=(.pure ():Sem Unit)) (K:=λ_ V'=>V'=V) (Kp:=λ_ _=>False) (m:= .read a) (.inl rfl) ha (cK rfl);obtain⟨es,w',V',k1,k2,k3⟩:=hs.runs hw;rcases k3 with⟨x,k3,rfl⟩|⟨_,_,hx⟩
 ·have e1:Xy () w=Xy x w':=k3;have e2:es=#[⟨.mark (.read a),false,true⟩]:=k2.symm;cases e1;subst e2;refine⟨g',w,_,_,h w, ?_,hJ⟩;rwa [sZ (by simp)]at k1
 ·exact hx.elim
end
section
variable (Wg:Nat)(cs:List Frame)(main:Bool)
set_option maxRecDepth 100000
theorem yG2:gI SD main (nb Wg cs main (2* 4294967296))=G (gI SD main (nb Wg cs main (2* 4294967296))).frame cs:=by kernel_rfl
theorem yG3:gI SD main (nb Wg cs main (3* 4294967296))=G (gI SD main (nb Wg cs main (3* 4294967296))).frame cs:=by kernel_rfl
theorem yG4:gI SD main (nb Wg cs main (4* 4294967296))=G (gI SD main (nb Wg cs main (4* 4294967296))).frame cs:=by kernel_rfl
theorem yG1:gI SD main (AW Wg cs main)=G (gI SD main (AW Wg cs main)).frame cs:=by kernel_rfl
end
theorem kQ{α β γ δ:Type}{a a':α}{b b':β}{c c':γ}{d d':δ}(h:(a,b,c,d)=(a',b',c',d')):a=a'/\b=b'/\c=c'/\d=d':=by
 simpa[UH]using h
section
variable {lv main:Bool}{J:View->Goroutine->Prop}{V:View}{cs:List Frame}
theorem DT(C:Closed lv SD main J){g:Goroutine}{U:View}(bK:bO g=true)(h:∀w,(Go.Gg.xO main w g)=(stepG SD main g w, .returning,96, .normal,[],true))(hG:gI SD main g=G (gI SD main g).frame cs)
  (hU:U={V with deaf:=deafBehind V.deaf #[⟨.mark .enable,false,true⟩]}) (hJ:∀fr,Leaves SD fr 96 .normal (.ret (.tuple #[])) U->J U (G fr cs)):J V g:=by
 refine C.mute (.inr rfl) (bO.out bK) (λw=> ?_) (g':=gI SD main g) ?_
 ·have:=h w;simp only[Go.Gg.xO,UH]at this;exact this.1.symm
 ·have:=h default;simp only[Go.Gg.xO,UH]at this;obtain⟨_,h1,h2,h3,h4,_⟩:=this;rw[hG,<- hU];refine hJ _ ⟨h2,h4,h3, ?_⟩;obtain⟨fn,hf,hr⟩:=ag6;exact⟨fn,hf,h1,results_none hr⟩
theorem ad3{n Wg:Nat}{sm:TypeId}(hn:n<4)(hW:V.own Wg=some (.cells #[.int .u64 ((n:Int)* KK), .int .u32 0] sm (0,0))) (hi:∀o,V.ab Wg o=none) (hc:V.role.chan≠some Wg) (hd:V.deaf=0):
  Body lv SD 96 #[pW Wg 0, .int .i64 1] .normal V (λo V'=>o= .ret (.tuple #[])/\V'=V.upd Wg (.cells #[.int .u64 (((n+1:Nat):Int)* KK), .int .u32 0] sm (0,0))):=by
 intro main J C cs hJ;have hA:=kQ (y0 Wg cs main default);show J V (a0 Wg cs);refine sX C 12 _ (λw=>(kQ (y0 Wg cs main w)).1) hA.2.1 ?_;refine C.mute (g:=DL Wg cs main) (g':=AU Wg cs main) (.inl rfl) (bO.out hA.2.2.1) (λw=>GJ (λ_ h=>by cases h) hA.2.2.2 Ip) ?_;have hB:=kQ (y13 Wg cs main default);refine sX C 11 _ (λw=>(kQ (y13 Wg cs main w)).1) hB.2.1 ?_;refine C.idle (g:=DM Wg cs main) (g':=AX Wg cs main) (bO.out hB.2.2.1) (λw=>ab1 hB.2.2.2 OS) ?_;have hC:=kQ (y25 Wg cs main default);refine sX C 22 _ (λw=>(kQ (y25 Wg cs main w)).1) hC.2.1 ?_;let V1:View:={V with deaf:=deafBehind V.deaf #[⟨.mark .disable,false,true⟩]};let V2:View:=V1.upd Wg (.cells #[.int .u64 (((n+1:Nat):Int)* KK), .int .u32 0] sm (0,0));have yQ:{V2 with deaf:=deafBehind V2.deaf #[⟨.mark .enable,false,true⟩]}=V.upd Wg (.cells #[.int .u64 (((n+1:Nat):Int)* KK), .int .u32 0] sm (0,0)):=by
  obtain⟨i,o,d,r⟩:=V;have:d=0:=hd;subst this;rfl
 show J V1 (DN Wg cs main);refine C.step _ _ (bO.out hC.2.2.1) λw hw=> ?_;have hh:=hw.own Wg _ hW;have dl:w.cell? ⟨Wg,0,none⟩=some (.int .u64 ((n:Int)* KK)):=by simp[Uj,hh]
 have iE:w.frozen? ⟨Wg,0,none⟩=false:=by simp[YX,hh]
 have hs:=ab0 (P:=SD) (main:=main) (w:=w) hC.2.2.2 OU dl iE;have e:Ts.wrap (((n:Int)* KK)+4294967296)=((n+1:Nat):Int)* KK:=by
  have h1:Ts.bits=64:=rfl;have h2:Ts.signed=false:=rfl;unfold Wy KK;rw[h1,h2];simp;omega
 rw[e]at hs;refine⟨nc Wg cs main (((n+1:Nat):Int)* KK),_,_,V2,hs, ?_, ?_⟩
 ·exact apY (V:=V1) hw hW (hi 0) hc
 have Rc:n=0\/n=1\/n=2\/n=3:=by omega
 rcases Rc with rfl|rfl|rfl|rfl
 ·have hD:=kQ (acX Wg cs main default);refine sX C 52 _ (λw=>(kQ (acX Wg cs main w)).1) hD.2.1 ?_;obtain⟨t,ht1,Fv⟩:=GV;have P6:V2.own Wg=some (.cells #[.int .u64 (((0+1:Nat):Int)* KK), .int .u32 0] sm (0,0)):=by simp[V2,View.upd]
  refine C.step _ _ (bO.out hD.2.2.1) λw hw=>⟨AR Wg cs main,w,#[],V2, ?_, .idle hw, ?_⟩
  ·have hh:=hw.own Wg _ P6;exact GL hD.2.2.2 ht1 GU Fv (v:= .int .u32 0) (by simp[Uj,hh])
  refine C.said (g:=AR Wg cs main) (g':=AT Wg cs main) (a:=⟨Wg,1,none⟩) (bO.out (yr1 Wg cs main)) ⟨by show V2.own Wg≠none;rw[P6];simp,hi 1⟩ (λw=>GK .read (λ_ _ h=>by cases h) (art Wg cs main) agc) ?_;have hE:=kQ (Nd Wg cs main default);refine sX C 39 _ (λw=>(kQ (Nd Wg cs main w)).1) hE.2.1 ?_;exact DT C hE.2.2.1 (λw=>(kQ (Nd Wg cs main w)).2.2.2) (yG1 Wg cs main) yQ.symm λfr hl=>hJ _ _ fr ⟨rfl,rfl⟩ hl
 ·have hE:=kQ (Nf Wg cs main default);refine sX C 87 _ (λw=>(kQ (Nf Wg cs main w)).1) hE.2.1 ?_;exact DT C hE.2.2.1 (λw=>(kQ (Nf Wg cs main w)).2.2.2) (yG2 Wg cs main) yQ.symm λfr hl=>hJ _ _ fr ⟨rfl,rfl⟩ hl
 ·have hE:=kQ (Ng Wg cs main default);refine sX C 87 _ (λw=>(kQ (Ng Wg cs main w)).1) hE.2.1 ?_;exact DT C hE.2.2.1 (λw=>(kQ (Ng Wg cs main w)).2.2.2) (yG3 Wg cs main) yQ.symm λfr hl=>hJ _ _ fr ⟨rfl,rfl⟩ hl
 ·have hE:=kQ (Nh Wg cs main default);refine sX C 87 _ (λw=>(kQ (Nh Wg cs main w)).1) hE.2.1 ?_;exact DT C hE.2.2.1 (λw=>(kQ (Nh Wg cs main w)).2.2.2) (yG4 Wg cs main) yQ.symm λfr hl=>hJ _ _ fr ⟨rfl,rfl⟩ hl
end
section
variable {P:Program}{main:Bool}{g:Goroutine}{w:World}
def uB (g:Goroutine):Option (TypeId×Value):=match ready g with
 |some {op:= .load t x, .. }=>some (t,g.frame.eval x)
 |_=>none
theorem apL{t:TypeId}{d:TypeDesc}{ad:Addr}{v:Value}(h:uB g=some (t, .pointer (some ad)))(ht:P.underlying t=some d)(hd:TypeDesc.agg d=false)(hq:(P.funcs[g.frame.fn]?).any (·.norace)=false)(hc:w.cell? ad=some v):
  stepG P main g w= .go (fin g v) w #[⟨.cell ad,false,false⟩]:=by
 obtain⟨o,x,h1,h2,h3⟩:∃o x,ready g=some o/\o.op= .load t x/\g.frame.eval x= .pointer (some ad):=by
  unfold uB at h;split at h
  ·rename_i s x _ _ _ _ ho;simp only[Te,UH]at h;obtain⟨rfl,h⟩:=h;exact⟨_,x,ho,rfl,h⟩
  ·cases h
 obtain⟨b,a,ops,i,rest,kk,cs,e,q1,q2,q3,q4,q5,q6,_⟩:=ready.out h1;rw[<- q4]at h3;rw[<- q5];refine Vl (congrArg (λx=>stepG P main x w) e) ?_;have e1:execOp a.eval o=(do let v<- WU t (.pointer (some ad));pure (.value v)):=by
  unfold execOp;simp only[h2,h3]
 have e2:(isAgg t:Sem Bool).run P w= .ok false w/\∀es,(isAgg t:Sem Bool).events P w es=es:=by
  unfold isAgg Go.underlying;cases d<;>first
   |(exact(Bool.noConfusion hd))
   |(constructor<;>simp[go_sem,ht])
 have hr:(execOp a.eval o).run P w= .ok (.value v) w:=by
  rw[e1];simp[WU,UM,loadVar,e2.1,hc]
 have cu:(execOp a.eval o).events P w #[]=#[⟨.cell ad,false,false⟩]:=by
  rw[e1];simp[WU,UM,loadVar,e2.1,e2.2,hc]
 rw[stepG_value q1 q2 q3 hr];unfold listed;rw[cu,seen_eq (by rw[q6];exact hq) (by intro e he f;simp only[Tx,SK,SU,or_false]at he;rw[he];simp)]
def wT (g:Goroutine):Option Value:=match ready g with
 |some {op:= .call {callee:= .builtin .close,args, .. }, .. }=>match args.toList with
  |[x]=>some (g.frame.eval x)
  |_=>none
 |_=>none
theorem apK{c cap s r:Nat}{D5:Array Value}{tm:Bool}(h:wT g=some (.chan (some c)))(hq:(P.funcs[g.frame.fn]?).any (·.norace)=false)(hc:w.heap[c]?=some (.chan cap D5 false s r tm)):
  stepG P main g w= .go (fin g (.tuple #[])) {w with heap:=w.heap.setIfInBounds c (.chan cap D5 true s r tm)} #[⟨.obj c,false,true⟩,⟨.obj c,true,true⟩]:=by
 obtain⟨o,x,l6,h1,h2,h3⟩:∃o x l6,ready g=some o/\o.op= .call {callee:= .builtin .close,args:=#[x],argTypes:=l6}/\g.frame.eval x= .chan (some c):=by
  unfold wT at h;split at h
  ·rename_i dst xs l6 ty pos af gd ho;split at h
   ·rename_i x hx;have:xs=#[x]:=(by apply Va;simpa using hx);subst this;exact⟨_,x,_,ho,rfl,by simpa using h⟩
   ·cases h
  ·cases h
 obtain⟨b,a,ops,i,rest,kk,cs,e,q1,q2,q3,q4,q5,q6,_⟩:=ready.out h1;rw[<- q4]at h3;rw[<- q5];refine Vl (congrArg (λx=>stepG P main x w) e) ?_;exact stepG_close q1 q2 q3 h2 h3 hc (by rw[q6];exact hq)
end
section
variable (Wg fc c:Nat)
noncomputable def e0:Goroutine:=born SD ⟨.fn (.func 100) #[pW Wg 0,pW fc 0],#[]⟩
noncomputable def e7:Goroutine:=cI SD false 7 (e0 Wg fc)
noncomputable def e8:Goroutine:=fin (e7 Wg fc) (.tuple #[])
noncomputable def e27:Goroutine:=cI SD false 19 (e8 Wg fc)
noncomputable def f76 (h:Goroutine)(v:Int):Goroutine:=cI SD false 48 (fin h (.int .u64 v))
noncomputable def LA (b:Goroutine):Goroutine:=cI SD false 25 (fin b (.bool false))
noncomputable def f96 (b:Goroutine):Goroutine:=cI SD false 19 (fin b (.bool true))
noncomputable def f97 (b:Goroutine):Goroutine:=fin (f96 b) (pW Wg 1)
noncomputable def f121 (b:Goroutine):Goroutine:=cI SD false 23 (fin (f97 Wg b) (.tuple #[]))
noncomputable def f138 (b:Goroutine):Goroutine:=cI SD false 16 (fin (f121 Wg b) (.tuple #[]))
noncomputable def f150 (b:Goroutine):Goroutine:=cI SD false 11 (fin (f138 Wg b) (.int .u64 0))
noncomputable def f154 (b:Goroutine):Goroutine:=cI SD false 3 (fin (f150 Wg b) (.tuple #[]))
noncomputable def f155 (b:Goroutine):Goroutine:=fin (f154 Wg b) (pW Wg 0)
noncomputable def f168 (b:Goroutine):Goroutine:=cI SD false 12 (fin (f155 Wg b) (.tuple #[]))
noncomputable def f169 (b:Goroutine):Goroutine:=fin (f168 Wg b) (.chan (some c))
noncomputable def f170 (b:Goroutine):Goroutine:=fin (f169 Wg c b) (.tuple #[])
noncomputable def yc (h:Goroutine):Goroutine:=cI SD false 31 (fin h (.int .u64 0))
noncomputable def Ni (h:Goroutine):Goroutine:=cI SD false 3 (fin (yc h) (.tuple #[]))
noncomputable def uO (h:Goroutine):Goroutine:=fin (Ni h) (pW Wg 0)
noncomputable def Dm (h:Goroutine):Goroutine:=cI SD false 22 (fin (uO Wg h) (.tuple #[]))
noncomputable def uP (h:Goroutine):Goroutine:=fin (Dm Wg h) (.chan (some c))
noncomputable def Hg (h:Goroutine):Goroutine:=fin (uP Wg c h) (.tuple #[])
noncomputable def hd:List Int->Goroutine
 |[]=>e27 Wg fc
 |v::l=>LA (f76 (hd l) v)
noncomputable def bd (l:List Int)(v:Int):Goroutine:=f76 (hd Wg fc l) v
noncomputable def fG (w:World)(n d:Nat)(g:Goroutine):List GStep×Bool×Bool×Nat:=(fV SD false w n g,iW SD false n g,bO (cI SD false n g),jR SD false n d g)
noncomputable def fF (w:World)(n d:Nat)(g:Goroutine):List GStep×Bool×Bool×Nat:=(fM SD false w n g,true,true,d)
noncomputable def yI (w:World)(n:Nat)(g:Goroutine):List GStep×Bool×GoStatus×Nat:=(fV SD false w n g,iW SD false n g,(cI SD false n g).status,jR SD false n 0 g)
noncomputable def yH (w:World)(n:Nat)(g:Goroutine):List GStep×Bool×GoStatus×Nat:=(fM SD false w n g,true, .finished,0)
noncomputable def qq (g:Goroutine):Bool:= !(SD.funcs[g.frame.fn]?).any (·.norace)
noncomputable def zT (w:World)(h:Goroutine):=(cr h,bO h,fG w 31 1 (fin h (.int .u64 0)),cr (yc h),fG w 3 0 (fin (yc h) (.tuple #[])),oX (Ni h),cr (uO Wg h),bO (uO Wg h),fG w 22 0 (fin (uO Wg h) (.tuple #[])),uB (Dm Wg h),qq (Dm Wg h),wT (uP Wg c h),qq (uP Wg c h),bO (uP Wg c h),mayWake SD (uP Wg c h),yI w 4 (Hg Wg c h))
noncomputable def zR (w:World)(h:Goroutine):=(some ((135:FuncId),#[pW Wg 0]),true,fF w 31 1 (fin h (.int .u64 0)),some ((112:FuncId),(#[]:Array Value)),fF w 3 0 (fin (yc h) (.tuple #[])),some ((158:TypeId),(160:TypeId),pW Wg 0),some ((123:FuncId),#[pW Wg 0]),true,fF w 22 0 (fin (uO Wg h) (.tuple #[])),some ((139:TypeId),pW fc 0),true,some (W_ (some c)),true,true,true,yH w 4 (Hg Wg c h))
noncomputable def fT (w:World)(b:Goroutine):=(cr b,bO b,fG w 25 1 (fin b (.bool false)),fG w 19 1 (fin b (.bool true)),oX (f96 b),cr (f97 Wg b),bO (f97 Wg b),fG w 23 1 (fin (f97 Wg b) (.tuple #[])),cr (f121 Wg b),(f121 Wg b).offers,fG w 16 1 (fin (f121 Wg b) (.tuple #[])),cr (f138 Wg b),fG w 11 1 (fin (f138 Wg b) (.int .u64 0)),cr (f150 Wg b),fG w 3 0 (fin (f150 Wg b) (.tuple #[])),oX (f154 Wg b),cr (f155 Wg b),bO (f155 Wg b),fG w 12 0 (fin (f155 Wg b) (.tuple #[])),uB (f168 Wg b),qq (f168 Wg b),wT (f169 Wg c b),qq (f169 Wg c b),bO (f169 Wg c b),mayWake SD (f169 Wg c b),yI w 4 (f170 Wg c b))
noncomputable def fR (w:World)(b:Goroutine)(v:Int):=(some ((137:FuncId),#[pW Wg 0, .int .u64 v, .int .u64 (v+1)]),true,fF w 25 1 (fin b (.bool false)),fF w 19 1 (fin b (.bool true)),some ((165:TypeId),(160:TypeId),pW Wg 1),some ((126:FuncId),#[pW Wg 1]),true,fF w 23 1 (fin (f97 Wg b) (.tuple #[])),some ((127:FuncId),#[pW Wg 1, .bool false]),(none:Option (Array CommCase×CommShape)),fF w 16 1 (fin (f121 Wg b) (.tuple #[])),some ((135:FuncId),#[pW Wg 0]),fF w 11 1 (fin (f138 Wg b) (.int .u64 0)),some ((112:FuncId),(#[]:Array Value)),fF w 3 0 (fin (f150 Wg b) (.tuple #[])),some ((158:TypeId),(160:TypeId),pW Wg 0),some ((123:FuncId),#[pW Wg 0]),true,fF w 12 0 (fin (f155 Wg b) (.tuple #[])),some ((139:TypeId),pW fc 0),true,some (W_ (some c)),true,true,true,yH w 4 (f170 Wg c b))
set_option maxRecDepth 100000
theorem c0(w:World):(fG w 7 0 (e0 Wg fc),cr (e7 Wg fc),fG w 19 1 (e8 Wg fc))=(fF w 7 0 (e0 Wg fc),some ((111:FuncId),(#[]:Array Value)),fF w 19 1 (e8 Wg fc)):=by kernel_rfl
noncomputable def pT (w:World)(l:List Int)(v:Int):=(fG w 48 1 (fin (hd Wg fc l) (.int .u64 v)),fT Wg c w (bd Wg fc l v),zT Wg c w (hd Wg fc (v::l)))
noncomputable def pR (w:World)(l:List Int)(v:Int):=(fF w 48 1 (fin (hd Wg fc l) (.int .u64 v)),fR Wg fc c w (bd Wg fc l v) v,zR Wg fc c w (hd Wg fc (v::l)))
theorem zz(w:World):zT Wg c w (hd Wg fc [])=zR Wg fc c w (hd Wg fc []):=by kernel_rfl
theorem Ml(w:World):pT Wg fc c w [] (4* 4294967296)=pR Wg fc c w [] (4* 4294967296):=by kernel_rfl
theorem Mk(w:World):pT Wg fc c w [4* 4294967296] (3* 4294967296)=pR Wg fc c w [4* 4294967296] (3* 4294967296):=by kernel_rfl
theorem Mh(w:World):pT Wg fc c w [3* 4294967296,4* 4294967296] (2* 4294967296)=pR Wg fc c w [3* 4294967296,4* 4294967296] (2* 4294967296):=by kernel_rfl
theorem Ma(w:World):pT Wg fc c w [2* 4294967296,3* 4294967296,4* 4294967296] (1* 4294967296)=pR Wg fc c w [2* 4294967296,3* 4294967296,4* 4294967296] (1* 4294967296):=by kernel_rfl
theorem Md(w:World):pT Wg fc c w [3* 4294967296,4* 4294967296] (1* 4294967296)=pR Wg fc c w [3* 4294967296,4* 4294967296] (1* 4294967296):=by kernel_rfl
theorem Mi(w:World):pT Wg fc c w [4* 4294967296] (2* 4294967296)=pR Wg fc c w [4* 4294967296] (2* 4294967296):=by kernel_rfl
theorem Mb(w:World):pT Wg fc c w [2* 4294967296,4* 4294967296] (1* 4294967296)=pR Wg fc c w [2* 4294967296,4* 4294967296] (1* 4294967296):=by kernel_rfl
theorem Me(w:World):pT Wg fc c w [4* 4294967296] (1* 4294967296)=pR Wg fc c w [4* 4294967296] (1* 4294967296):=by kernel_rfl
theorem Mj(w:World):pT Wg fc c w [] (3* 4294967296)=pR Wg fc c w [] (3* 4294967296):=by kernel_rfl
theorem Mg(w:World):pT Wg fc c w [3* 4294967296] (2* 4294967296)=pR Wg fc c w [3* 4294967296] (2* 4294967296):=by kernel_rfl
theorem L_(w:World):pT Wg fc c w [2* 4294967296,3* 4294967296] (1* 4294967296)=pR Wg fc c w [2* 4294967296,3* 4294967296] (1* 4294967296):=by kernel_rfl
theorem Mc(w:World):pT Wg fc c w [3* 4294967296] (1* 4294967296)=pR Wg fc c w [3* 4294967296] (1* 4294967296):=by kernel_rfl
theorem Mf(w:World):pT Wg fc c w [] (2* 4294967296)=pR Wg fc c w [] (2* 4294967296):=by kernel_rfl
theorem L9(w:World):pT Wg fc c w [2* 4294967296] (1* 4294967296)=pR Wg fc c w [2* 4294967296] (1* 4294967296):=by kernel_rfl
theorem L8(w:World):pT Wg fc c w [] (1* 4294967296)=pR Wg fc c w [] (1* 4294967296):=by kernel_rfl
end
section
variable {P:Program}{Wg:Nat}{Stop:Nat->Goroutine->Prop}
theorem O0{n d d':Nat}{g:Goroutine}(h:∀w,fG w n d g=fF w n d' g):(∀w,fV SD false w n g=fM SD false w n g)/\iW SD false n g=true/\bO (cI SD false n g)=true/\jR SD false n d g=d':=
 ⟨λw=>(ek (h w)).1,(ek (h default)).2.1,(ek (h default)).2.2.1,(ek (h default)).2.2.2⟩
theorem wY{n d d':Nat}{g:Goroutine}(h:∀w,fG w n d g=fF w n d' g)(hs:∃m,cR SD Stop m d' (cI SD false n g)):∃m,cR SD Stop m d g:=by
 obtain⟨h1,h2,_,h4⟩:=O0 h;exact wi n d g h1 h2 (by rw[h4];exact hs)
theorem Iy{n d d':Nat}{g:Goroutine}(h:∀w,fG w n d g=fF w n d' g)(hs:∃m,ig SD Wg Stop m d' (cI SD false n g)):∃m,ig SD Wg Stop m d g:=by
 obtain⟨h1,h2,_,h4⟩:=O0 h;exact abW n d g h1 h2 (by rw[h4];exact hs)
theorem agC{n:Nat}{g:Goroutine}(h:∀w,yI w n g=yH w n g):∃q,QuitsD SD q 0 g:=
 Gu n 0 g (λw=>(ek (h w)).1) (ek (h default)).2.1 (Mr (ek (h default)).2.2.1 (ek (h default)).2.2.2)
theorem apv{d:Nat}{g g':Goroutine}{es:Array Event}(hr:g.status= .running)(hm:∀e∈es,VU e=true)(h:∀w,stepG P false g w= .go g' w es)(hs:∃m,ig P Wg Stop m (deafBehind d es) g'):∃m,ig P Wg Stop m d g:=by
 obtain⟨m,gh⟩:=hs;exact⟨m+1, .inr ⟨hr,g',es,hm,λw _ _ _=>h w,gh⟩⟩
end
set_option maxRecDepth 100000
theorem t173:(SD.underlying 139).map TypeDesc.agg=some false:=by kernel_rfl
theorem Ms{g:Goroutine}{o:Oper}(h:ready g=some o):bO g=true:=by
 obtain⟨_,_,_,_,_,_,_,_,_,_,_,_,_,_,hr⟩:=ready.out h;unfold bO;rw[hr]
theorem yz{g:Goroutine}{f:FuncId}{vs:Array Value}(h:cr g=some (f,vs)):bO g=true:=by
 obtain⟨_,_,_,h1,_,_⟩:=cr.out h;exact Ms h1
theorem On{g:Goroutine}{s d:TypeId}{v:Value}(h:oX g=some (s,d,v)):bO g=true:=by
 unfold oX at h;split at h
 ·rename_i ho;exact Ms ho
 ·cases h
theorem al5{g:Goroutine}{t:TypeId}{v:Value}(h:uB g=some (t,v)):bO g=true:=by
 unfold uB at h;split at h
 ·rename_i ho;exact Ms ho
 ·cases h
section
variable {Wg fc c:Nat}{Im:cz}
theorem NC{n:Nat}{g:Goroutine}(hi:Im fc 0=some (.chan (some c)))(h1:cr g=some (123,#[pW Wg 0])) (h3:∀w,fG w n 0 (fin g (.tuple #[]))=fF w n 0 (fin g (.tuple #[])))
  (h4:uB (cI SD false n (fin g (.tuple #[])))=some (139,pW fc 0)) (h5:qq (cI SD false n (fin g (.tuple #[])))=true)
  (h6:wT (fin (cI SD false n (fin g (.tuple #[]))) (.chan (some c)))=some (.chan (some c))) (h7:qq (fin (cI SD false n (fin g (.tuple #[]))) (.chan (some c)))=true) (h8:bO (fin (cI SD false n (fin g (.tuple #[]))) (.chan (some c)))=true)
  (h9:mayWake SD (fin (cI SD false n (fin g (.tuple #[]))) (.chan (some c)))=true) (h10:∀w,yI w 4 (fin (fin (cI SD false n (fin g (.tuple #[]))) (.chan (some c))) (.tuple #[]))=yH w 4 (fin (fin (cI SD false n (fin g (.tuple #[]))) (.chan (some c))) (.tuple #[]))):tr SD Im c Wg 0 g:=by
 refine⟨rfl,bO.out (yz h1),_,λw=>GK .acquire (λ_ _ h=>by cases h) h1 age, ?_⟩;refine wY h3 ⟨0,rfl,bO.out (al5 h4),fc,0,_,_,hi,λw hc=> ?_,0,rfl,bO.out h8,h9,_,λw s hw=> ?_,agC h10⟩
 ·obtain⟨d,cZ,iB⟩:=Tl.1 t173;exact apL h4 cZ iB (by simpa[qq]using h5) hc
 ·exact apK h6 (by simpa[qq]using h7) hw
theorem So{n1 n2:Nat}{g:Goroutine}(h1:∀w,fG w n1 1 g=fF w n1 1 g)(h2:cr (cI SD false n1 g)=some (112,#[])) (h3:∀w,fG w n2 0 (fin (cI SD false n1 g) (.tuple #[]))=fF w n2 0 (fin (cI SD false n1 g) (.tuple #[])))
  (h4:oX (cI SD false n2 (fin (cI SD false n1 g) (.tuple #[])))=some (158,160,pW Wg 0)) (h5:tr SD Im c Wg 0 (fin (cI SD false n2 (fin (cI SD false n1 g) (.tuple #[]))) (pW Wg 0))):∃n,ig SD Wg (tr SD Im c Wg) n 1 g:=by
 refine Iy h1 ?_;refine apv (bO.out (yz h2)) (LH (.inr rfl)) (λw=>GJ (λ_ h=>by cases h) h2 agb) ?_;refine Iy (d:=deafBehind 1 #[⟨.mark .enable,false,true⟩]) h3 ?_;exact abX (bO.out (On h4)) (λw x y hW=>GL h4 acJ GU i182 hW.st.1) ⟨0,h5⟩
theorem arw{h:Goroutine}(hi:Im fc 0=some (.chan (some c)))(H:∀w,zT Wg c w h=zR Wg fc c w h):cr h=some (135,#[pW Wg 0])/\∃n,ig SD Wg (tr SD Im c Wg) n 1 (fin h (.int .u64 0)):=by
 have key:∀w,cr h=some ((135:FuncId),#[pW Wg 0])/\bO h=true/\fG w 31 1 (fin h (.int .u64 0))=fF w 31 1 (fin h (.int .u64 0))/\cr (yc h)=some ((112:FuncId),(#[]:Array Value))/\fG w 3 0 (fin (yc h) (.tuple #[]))=fF w 3 0 (fin (yc h) (.tuple #[]))/\oX (Ni h)=some ((158:TypeId),(160:TypeId),pW Wg 0)/\cr (uO Wg h)=some ((123:FuncId),#[pW Wg 0])/\bO (uO Wg h)=true/\fG w 22 0 (fin (uO Wg h) (.tuple #[]))=fF w 22 0 (fin (uO Wg h) (.tuple #[]))/\uB (Dm Wg h)=some ((139:TypeId),pW fc 0)/\qq (Dm Wg h)=true/\wT (uP Wg c h)=some (W_ (some c))/\qq (uP Wg c h)=true/\bO (uP Wg c h)=true/\mayWake SD (uP Wg c h)=true/\yI w 4 (Hg Wg c h)=yH w 4 (Hg Wg c h):=λw=>by
  have:=H w;unfold zT zR at this;simpa only[UH]using this
 obtain⟨k1,k2,_,k4,_,k6,k7,k8,_,Cz,K6,zG,K7,CA,K8,_⟩:=key default;refine⟨k1,So (n1:=31) (n2:=3) (λw=>(key w).2.2.1) k4 (λw=>(key w).2.2.2.2.1) k6 ?_⟩;exact NC (n:=22) hi k7 (λw=>(key w).2.2.2.2.2.2.2.2.1) Cz K6 zG K7 CA K8 (λw=>(key w).2.2.2.2.2.2.2.2.2.2.2.2.2.2.2)
theorem afz{b:Goroutine}{v:Nat}(hv:0<v)(hi:Im fc 0=some (.chan (some c)))(H:∀w,fT Wg c w b=fR Wg fc c w b ((v:Int)* 4294967296))(hm:∃n,cR SD (eQ SD Im c Wg v) n 1 (LA b)):Dn SD c Wg Im v 1 b:=by
 have key:∀w,cr b=some ((137:FuncId),#[pW Wg 0, .int .u64 ((v:Int)* 4294967296), .int .u64 ((v:Int)* 4294967296+1)])/\bO b=true/\fG w 25 1 (fin b (.bool false))=fF w 25 1 (fin b (.bool false))/\fG w 19 1 (fin b (.bool true))=fF w 19 1 (fin b (.bool true))/\oX (f96 b)=some ((165:TypeId),(160:TypeId),pW Wg 1)/\cr (f97 Wg b)=some ((126:FuncId),#[pW Wg 1])/\bO (f97 Wg b)=true/\fG w 23 1 (fin (f97 Wg b) (.tuple #[]))=fF w 23 1 (fin (f97 Wg b) (.tuple #[]))/\cr (f121 Wg b)=some ((127:FuncId),#[pW Wg 1, .bool false])/\(f121 Wg b).offers=none/\fG w 16 1 (fin (f121 Wg b) (.tuple #[]))=fF w 16 1 (fin (f121 Wg b) (.tuple #[]))/\cr (f138 Wg b)=some ((135:FuncId),#[pW Wg 0])/\fG w 11 1 (fin (f138 Wg b) (.int .u64 0))=fF w 11 1 (fin (f138 Wg b) (.int .u64 0))/\cr (f150 Wg b)=some ((112:FuncId),(#[]:Array Value))/\fG w 3 0 (fin (f150 Wg b) (.tuple #[]))=fF w 3 0 (fin (f150 Wg b) (.tuple #[]))/\oX (f154 Wg b)=some ((158:TypeId),(160:TypeId),pW Wg 0)/\cr (f155 Wg b)=some ((123:FuncId),#[pW Wg 0])/\bO (f155 Wg b)=true/\fG w 12 0 (fin (f155 Wg b) (.tuple #[]))=fF w 12 0 (fin (f155 Wg b) (.tuple #[]))/\uB (f168 Wg b)=some ((139:TypeId),pW fc 0)/\qq (f168 Wg b)=true/\wT (f169 Wg c b)=some (W_ (some c))/\qq (f169 Wg c b)=true/\bO (f169 Wg c b)=true/\mayWake SD (f169 Wg c b)=true/\yI w 4 (f170 Wg c b)=yH w 4 (f170 Wg c b):=λw=>by
  have:=H w;unfold fT fR at this;simpa only[UH]using this
 obtain⟨k1,k2,_,_,k5,k6,k7,_,k9,Cz,_,zG,_,CA,_,K9,K_,Sf,_,La,Lb,Lc,Ld,Lf,Lg,_⟩:=key default;refine⟨rfl,bO.out k2,⟨_,λw hW=>apI k1 OV hW.st.1 hW.st.2.2.1, ?_⟩,λu hu=>⟨_,λw hW=>apJ k1 OV hW.st.1 hW.st.2.2.1 (λe=> ?_), ?_⟩⟩
 ·refine Iy (λw=>(key w).2.2.2.1) ?_;have hs:SD.underlying 165=some (.pointer (GV.choose))/\(SD.info? GV.choose).map (λi=>decide (i.size=0))=some false:=GV.choose_spec;refine abX (bO.out (On k5)) (λw x y hW=>GL k5 hs.1 GU hs.2 hW.st.2.1) ⟨0,rfl,bO.out k7,_,λw=>GK .write (λ_ _ h=>by cases h) k6 agf, ?_⟩;refine wY (λw=>(key w).2.2.2.2.2.2.2.1) ⟨0,rfl,bO.out (yz k9),Cz,λw st hW=> ?_,fin (f121 Wg b) (.tuple #[]),λw hW=> ?_, ?_⟩
  ·exact apO k9 OT hW.st.2.1
  ·exact apM (n:=1) k9 OT hW.st.2.1 (by decide) hW.st.2.2.2
  ·refine wY (λw=>(key w).2.2.2.2.2.2.2.2.2.2.1) ⟨0,rfl,bO.out (yz zG),_,λw hW=>MM zG Iq hW.st.1, ?_⟩;refine So (n1:=11) (n2:=3) (λw=>(key w).2.2.2.2.2.2.2.2.2.2.2.2.1) CA (λw=>(key w).2.2.2.2.2.2.2.2.2.2.2.2.2.2.1) K9 ?_;exact NC (n:=12) hi K_ (λw=>(key w).2.2.2.2.2.2.2.2.2.2.2.2.2.2.2.2.2.2.1) La Lb Lc Ld Lf Lg (λw=>(key w).2.2.2.2.2.2.2.2.2.2.2.2.2.2.2.2.2.2.2.2.2.2.2.2.2)
 ·unfold KK at e;omega
 ·exact wY (λw=>(key w).2.2.1) hm
theorem mN(hi:Im fc 0=some (.chan (some c))){h:Goroutine}{k:Nat}(hz:∀w,zT Wg c w h=zR Wg fc c w h)
  (hv:∀v,0<v->v<=k->v<=4->(∀w,fG w 48 1 (fin h (.int .u64 ((v:Int)* 4294967296)))=fF w 48 1 (fin h (.int .u64 ((v:Int)* 4294967296))))/\(∀w,fT Wg c w (f76 h ((v:Int)* 4294967296))=fR Wg fc c w (f76 h ((v:Int)* 4294967296)) ((v:Int)* 4294967296))/\eQ SD Im c Wg v 1 (LA (f76 h ((v:Int)* 4294967296)))):eQ SD Im c Wg (k+1) 1 h:=by
 obtain⟨z1,z2⟩:=arw hi hz;rw[eQ];refine⟨rfl,bO.out (yz z1),λv h1 h2=> ?_⟩;refine⟨_,λw hW=>MM z1 Iq hW.st.1,λe=> ?_,λe=> ?_⟩
 ·subst e;exact z2
 ·obtain⟨q1,q2,q3⟩:=hv v (by omega) h1 h2;exact wY q1 ⟨0,afz (by omega) hi q2 ⟨0,q3⟩⟩
theorem dY{l:List Int}{v:Int}(h:∀w,pT Wg fc c w l v=pR Wg fc c w l v):(∀w,fG w 48 1 (fin (hd Wg fc l) (.int .u64 v))=fF w 48 1 (fin (hd Wg fc l) (.int .u64 v)))/\(∀w,fT Wg c w (bd Wg fc l v)=fR Wg fc c w (bd Wg fc l v) v)/\(∀w,zT Wg c w (hd Wg fc (v::l))=zR Wg fc c w (hd Wg fc (v::l))):=by
 refine⟨λw=>(Wn (h w)).1,λw=>(Wn (Wn (h w)).2).1,λw=>(Wn (Wn (h w)).2).2⟩
end
section
variable (Wg fc c:Nat){Im:cz}
theorem akg(hi:Im fc 0=some (.chan (some c))):eQ SD Im c Wg 1 1 (hd Wg fc [1* 4294967296]):=by
 refine mN (k:=0) hi (dY (L8 Wg fc c)).2.2 λv h1 h2 h3=> ?_;omega
theorem akh(hi:Im fc 0=some (.chan (some c))):eQ SD Im c Wg 1 1 (hd Wg fc [1* 4294967296,2* 4294967296]):=by
 refine mN (k:=0) hi (dY (L9 Wg fc c)).2.2 λv h1 h2 h3=> ?_;omega
theorem ako(hi:Im fc 0=some (.chan (some c))):eQ SD Im c Wg 2 1 (hd Wg fc [2* 4294967296]):=by
 refine mN (k:=1) hi (dY (Mf Wg fc c)).2.2 λv h1 h2 h3=> ?_;rcases(show v=1 by omega)with rfl
 ·exact⟨(dY (L9 Wg fc c)).1,(dY (L9 Wg fc c)).2.1,akh Wg fc c hi⟩
theorem akl(hi:Im fc 0=some (.chan (some c))):eQ SD Im c Wg 1 1 (hd Wg fc [1* 4294967296,3* 4294967296]):=by
 refine mN (k:=0) hi (dY (Mc Wg fc c)).2.2 λv h1 h2 h3=> ?_;omega
theorem aki(hi:Im fc 0=some (.chan (some c))):eQ SD Im c Wg 1 1 (hd Wg fc [1* 4294967296,2* 4294967296,3* 4294967296]):=by
 refine mN (k:=0) hi (dY (L_ Wg fc c)).2.2 λv h1 h2 h3=> ?_;omega
theorem akp(hi:Im fc 0=some (.chan (some c))):eQ SD Im c Wg 2 1 (hd Wg fc [2* 4294967296,3* 4294967296]):=by
 refine mN (k:=1) hi (dY (Mg Wg fc c)).2.2 λv h1 h2 h3=> ?_;rcases(show v=1 by omega)with rfl
 ·exact⟨(dY (L_ Wg fc c)).1,(dY (L_ Wg fc c)).2.1,aki Wg fc c hi⟩
theorem aks(hi:Im fc 0=some (.chan (some c))):eQ SD Im c Wg 3 1 (hd Wg fc [3* 4294967296]):=by
 refine mN (k:=2) hi (dY (Mj Wg fc c)).2.2 λv h1 h2 h3=> ?_;rcases(show v=1\/v=2 by omega)with rfl|rfl
 ·exact⟨(dY (Mc Wg fc c)).1,(dY (Mc Wg fc c)).2.1,akl Wg fc c hi⟩
 ·exact⟨(dY (Mg Wg fc c)).1,(dY (Mg Wg fc c)).2.1,akp Wg fc c hi⟩
theorem akn(hi:Im fc 0=some (.chan (some c))):eQ SD Im c Wg 1 1 (hd Wg fc [1* 4294967296,4* 4294967296]):=by
 refine mN (k:=0) hi (dY (Me Wg fc c)).2.2 λv h1 h2 h3=> ?_;omega
theorem akk(hi:Im fc 0=some (.chan (some c))):eQ SD Im c Wg 1 1 (hd Wg fc [1* 4294967296,2* 4294967296,4* 4294967296]):=by
 refine mN (k:=0) hi (dY (Mb Wg fc c)).2.2 λv h1 h2 h3=> ?_;omega
theorem akr(hi:Im fc 0=some (.chan (some c))):eQ SD Im c Wg 2 1 (hd Wg fc [2* 4294967296,4* 4294967296]):=by
 refine mN (k:=1) hi (dY (Mi Wg fc c)).2.2 λv h1 h2 h3=> ?_;rcases(show v=1 by omega)with rfl
 ·exact⟨(dY (Mb Wg fc c)).1,(dY (Mb Wg fc c)).2.1,akk Wg fc c hi⟩
theorem akm(hi:Im fc 0=some (.chan (some c))):eQ SD Im c Wg 1 1 (hd Wg fc [1* 4294967296,3* 4294967296,4* 4294967296]):=by
 refine mN (k:=0) hi (dY (Md Wg fc c)).2.2 λv h1 h2 h3=> ?_;omega
theorem akj(hi:Im fc 0=some (.chan (some c))):eQ SD Im c Wg 1 1 (hd Wg fc [1* 4294967296,2* 4294967296,3* 4294967296,4* 4294967296]):=by
 refine mN (k:=0) hi (dY (Ma Wg fc c)).2.2 λv h1 h2 h3=> ?_;omega
theorem akq(hi:Im fc 0=some (.chan (some c))):eQ SD Im c Wg 2 1 (hd Wg fc [2* 4294967296,3* 4294967296,4* 4294967296]):=by
 refine mN (k:=1) hi (dY (Mh Wg fc c)).2.2 λv h1 h2 h3=> ?_;rcases(show v=1 by omega)with rfl
 ·exact⟨(dY (Ma Wg fc c)).1,(dY (Ma Wg fc c)).2.1,akj Wg fc c hi⟩
theorem akt(hi:Im fc 0=some (.chan (some c))):eQ SD Im c Wg 3 1 (hd Wg fc [3* 4294967296,4* 4294967296]):=by
 refine mN (k:=2) hi (dY (Mk Wg fc c)).2.2 λv h1 h2 h3=> ?_;rcases(show v=1\/v=2 by omega)with rfl|rfl
 ·exact⟨(dY (Md Wg fc c)).1,(dY (Md Wg fc c)).2.1,akm Wg fc c hi⟩
 ·exact⟨(dY (Mh Wg fc c)).1,(dY (Mh Wg fc c)).2.1,akq Wg fc c hi⟩
theorem aku(hi:Im fc 0=some (.chan (some c))):eQ SD Im c Wg 4 1 (hd Wg fc [4* 4294967296]):=by
 refine mN (k:=3) hi (dY (Ml Wg fc c)).2.2 λv h1 h2 h3=> ?_;rcases(show v=1\/v=2\/v=3 by omega)with rfl|rfl|rfl
 ·exact⟨(dY (Me Wg fc c)).1,(dY (Me Wg fc c)).2.1,akn Wg fc c hi⟩
 ·exact⟨(dY (Mi Wg fc c)).1,(dY (Mi Wg fc c)).2.1,akr Wg fc c hi⟩
 ·exact⟨(dY (Mk Wg fc c)).1,(dY (Mk Wg fc c)).2.1,akt Wg fc c hi⟩
theorem hq_(hi:Im fc 0=some (.chan (some c))):eQ SD Im c Wg 5 1 (hd Wg fc []):=by
 refine mN (k:=4) hi (zz Wg fc c) λv h1 h2 h3=> ?_;rcases(show v=1\/v=2\/v=3\/v=4 by omega)with rfl|rfl|rfl|rfl
 ·exact⟨(dY (L8 Wg fc c)).1,(dY (L8 Wg fc c)).2.1,akg Wg fc c hi⟩
 ·exact⟨(dY (Mf Wg fc c)).1,(dY (Mf Wg fc c)).2.1,ako Wg fc c hi⟩
 ·exact⟨(dY (Mj Wg fc c)).1,(dY (Mj Wg fc c)).2.1,aks Wg fc c hi⟩
 ·exact⟨(dY (Ml Wg fc c)).1,(dY (Ml Wg fc c)).2.1,aku Wg fc c hi⟩
theorem afF(hi:Im fc 0=some (.chan (some c))):Hl SD Im c Wg (born SD ⟨.fn (.func 100) #[pW Wg 0,pW fc 0],#[]⟩):=by
 have h0:∀w,fG w 7 0 (e0 Wg fc)=fF w 7 0 (e0 Wg fc)/\cr (e7 Wg fc)=some ((111:FuncId),(#[]:Array Value))/\fG w 19 1 (e8 Wg fc)=fF w 19 1 (e8 Wg fc):=λw=>by
  have:=c0 Wg fc w;simpa only[UH]using this
 show ∃n,cR SD (eQ SD Im c Wg 5) n 0 (e0 Wg fc);refine wY (λw=>(h0 w).1) ?_;refine MI (bO.out (yz (h0 default).2.1)) (LH (.inl rfl)) (λw=>GJ (λ_ h=>by cases h) (h0 default).2.1 Ip) ?_;exact wY (d:=deafBehind 0 #[⟨.mark .disable,false,true⟩]) (λw=>(h0 w).2.2) ⟨0,hq_ Wg fc c hi⟩
end
open Go.Gg.Tk
section
variable {lv:Bool}{P:Program}{r:Option Nat}{nt:Nat}{E:Env}{V:View}{a:Act}{s:AS}{c:Code}{Q:Ex->Act->View->Prop}
theorem yw(s3:AS)(ah:At E V s a nt)(h:aY lv P r nt c s (λe s'=>match e with| .normal=>s'.Sub s3|_=>False))(hQ:∀E' V' a',Kept E E' V V' a a'->At E' V' s3 a' nt->Q .normal a' V'):WP lv P r c Q a V:=
 h E V a Q ah λae e E' V' a' s' hk aR he hΦ=>by
  cases ae<;>cases e<;>first
   |exact he.elim
   |exact hΦ.elim
   |exact hQ E' V' a' hk (aR.sub hΦ)
theorem unwind_mark{lv:Bool}{P:Program}{main:Bool}{J:View->Goroutine->Prop}(C:Closed lv P main J){V:View}{fr:Frame}{cs:List Frame}{b:Nat}{ds:List Deferred}(h4:fr.defers={target:= .collected b,args:=#[]}::ds) (hm:(fr.mode matches .run)=false) (ho:V.own b=some (.deferred (some []))) (fi:V.role.chan≠some b) (h:J (V.upd b (.deferred none)) (G {fr with defers:=ds} cs)):J V (G fr cs):=by
 refine C.step _ _ rfl λw hw=> ?_;obtain⟨es,w',V',k1,k2,k3⟩:=(MF (P:=P) ho fi).runs hw;rcases k3 with⟨x,k3,rfl,rfl⟩|⟨_,_,hx⟩
 ·refine⟨G {fr with defers:=ds} cs,w',seen P fr.fn es,_, ?_,k1.seen P fr.fn,h⟩;have e:stepG P main (G fr cs) w=unwind P main fr cs none w:=by
   obtain⟨fn,tmps,todo,defers,mode,kind,ro⟩:=fr;cases mode with
   |run=>cases hm
   |returning=>simp[G,stepG]
   |panicking ch=>simp[G,stepG]
  rw[e];simp only[unwind,h4];simp[Tt,k3,k2,TN,G]
 ·exact hx.elim
theorem fW{s s':AS}(h:∀p∈s'.T,∃b,look s.T p.1=some b/\Wk b p.2)(hH:s.H=s'.H):s.Sub s':=⟨λ_ _ e=>h _ (rG e),hH⟩
theorem tO{E:Env}{x v:Value}(h:ap E (.val x) v):v=x:=by cases h;rfl
theorem D_{E:Env}{cs:Array Value}(h:cL E [] cs):cs=#[]:=Array.size_eq_zero_iff.1 h.1
theorem OH{E:Env}{l:List Value}{cs:Array Value}(h:cL E (l.map .val) cs):cs=l.toArray:=by
 have hs:cs.size=l.length:=by simpa using h.1
 refine Array.ext hs λi h1 h2=> ?_;have hi:i<l.length:=by simpa using h2
 have:=tO (h.2 i (.val l[i]) (by simp[SV hi]));rw[SH,SJ h1]at this;simpa using this
def rE (K:Kn)(b:Nat):List Value:= .bool K.has:: .map (some b)::(K.aA.map (λn:Nat=>SG .u16 n)++(K.hours.map (λn:Nat=>SG .u16 n)++(K.less.map (λn:Nat=>SG .u16 n)++(K.aV.map (λn:Nat=>SG .u16 n)++K.first.map (SG .i64)))))
def rD (K:Kn):Obj:= .map (K.aH.zipIdx.map dN).toArray K.aH.length
theorem afU{E:Env}{K:Kn}{mp:Nat}{v:Value}(h:ap E (.agg (K.l mp)) v):v= .agg (rE K (E.blk mp)).toArray:=by
 cases h with
 |agg hs h=>
  rename_i cs;congr 1;have hl:(K.l mp).length=(rE K (E.blk mp)).length:=by simp[Kn.l,rE]
  have key:∀(i:Nat)(x:AV),(K.l mp)[i]?=some x->∀y,ap E x y->(rE K (E.blk mp))[i]?=some y:=by
   intro i x hx y hy
   match i with
   |0=>cases hx;rw[tO hy];rfl
   |1=>cases hx;cases hy;rfl
   |i+2=>
    have e:(K.l mp)[i+2]?=((K.aA.map (λn:Nat=>SG .u16 n)++(K.hours.map (λn:Nat=>SG .u16 n)++(K.less.map (λn:Nat=>SG .u16 n)++(K.aV.map (λn:Nat=>SG .u16 n)++K.first.map (SG .i64))))).map AV.val)[i]?:=by
     simp[Kn.l,wv,iv,XL]
    rw[e,Ti]at hx;obtain⟨z,h1,rfl⟩:=Tl.1 hx;rw[tO hy];exact h1
  have po:cs.size=(rE K (E.blk mp)).length:=hs.trans hl;refine Array.ext po λi h1 h2=> ?_;have hi:i<(K.l mp).length:=by omega
  have:=key i _ (SV hi) _ (h i _ (SV hi));rw[SH,SJ h1]at this;have h3:(rE K (E.blk mp)).toArray[i]?=some cs[i]:=by simpa using this
  rw[SJ h2]at h3;exact(Vz h3).symm
def qx (x:ai)(deep:Int)(bh:Nat):Spec:=λv _ Ow=>∃b,v= .agg (rE (gT x deep bh) b).toArray/\∀b',Ow b'=if b'=b then some (rD (gT x deep bh))else none
set_option maxRecDepth 100000 in
theorem anH:SD.funcs.size=184:=by kernel_rfl
theorem M7{x:ai}{deep:Int}{bh:Nat}(hx:x.Ok)(hA:∀h∈kH x bh,jz h/\∀ns∈gp x h,∀a∈(iu x h ns).map (dB h ns),iL x a):bP (gT x deep bh):=by
 unfold gT;refine I0 hx (λt ht=> ?_) CB;obtain⟨h,h1,h2⟩:=S4.1 ht;obtain⟨ns,h3,h4⟩:=GQ h2;exact(hA h h1).2 ns h3 t h4
theorem ark{J:View->Goroutine->Prop}(C:yd SD false J){E:Env}{V:View}{x:ai}{bh c Wg:Nat}{deep:Int}{rv tv dv fv:Value}(hx:x.Ok)(kJ:bh<=3)(hA:∀h∈kH x bh,jz h/\∀ns∈gp x h,∀a∈(iu x h ns).map (dB h ns),iL x a)(ajb:Conc E V [])
  (hr:ap E (.rp x.l) rv) (ht:ap E (.rp [iv bh]) tv) (hd:ap E (.rp [iv deep]) dv) (hf:ap E (.rp [.val (.chan (some c))]) fv) (b8:V.role= .work c Wg [qx x deep bh]) (fl:V.deaf=0):J V (born SD ⟨.fn (.func 97) #[pW Wg 0,rv,tv,dv,fv],#[]⟩):=by
 have C':Closed false SD false J:={C with more:=λh=>by cases h};unfold born;rw[anH];refine acM C' (fr:={(default:Frame)with fn:=184,defers:=[⟨.fn (.func 97) #[pW Wg 0,rv,tv,dv,fv],#[]⟩],mode:= .panicking [goexitEntry]}) (ds:=[]) rfl rfl (by kernel_rfl) ?_;refine agq (Q:=λa' V'=>∃b,a'.defers=[{target:= .collected b,args:=#[]},⟨.fn (.func 98) #[],#[pW Wg 0]⟩]/\V'.own b=some (.deferred (some []))/\V'.role= .work c Wg []/\V'.deaf=0) C' (by simp) F.f97 rfl ?_ ?_
 rotate_left
 ·rintro a' V' todo ⟨b,h1,h0,h2,h3⟩
  refine unwind_mark C' (ds:=[⟨.fn (.func 98) #[],#[pW Wg 0]⟩]) h1 rfl h0 (by rw[h2];simp[m_.chan]) ?_;refine acM C' (ds:=[]) rfl rfl (by kernel_rfl) ?_;exact af5 Wg a'.tmps todo C h2 h3
 have cO:cL E [.val (pW Wg 0), .rp x.l, .rp [iv bh], .rp [iv deep], .rp [.val (.chan (some c))]] (#[]++#[pW Wg 0,rv,tv,dv,fv]):=by
  refine⟨rfl,λi a e=> ?_⟩
  match i,e with
  |0,e=>cases e;exact .val _
  |1,e=>cases e;exact hr
  |2,e=>cases e;exact ht
  |3,e=>cases e;exact hd
  |4,e=>cases e;exact hf
 have ah:=A5 (nt:=25) ajb cO (by simp);simp only[bp,SS]at ah;refine wp_seq ?_;refine(NY (nt:=25) (n:=0) (ds:=[]) (Φ:=λe s' nk=>e= .normal/\s'=⟨[(0, .val (pW Wg 0)),(1, .rp x.l),(2, .rp [iv bh]),(3, .rp [iv deep]),(4, .rp [.val (.chan (some c))])],[]⟩/\nk=[(.fn (.func 98) [] [],[.val (pW Wg 0)])]) rfl rfl rfl rfl rfl rfl (by kernel_rfl) ?_) E V _ _ ah trivial λae e E1 V1 a1 s1 ds1 gZ vv cZ BU h1=> ?_
 ·(try simp only[seval]);exact⟨_,_,_,rfl⟩
 obtain⟨rfl,rfl,rfl⟩:=h1;cases e<;>first
  |exact BU.elim
  |skip
 have ajk:a1.defers=[⟨.fn (.func 98) #[],#[pW Wg 0]⟩]:=by
  match jV:a1.defers,cZ with
  |[d],cZ=>
   obtain⟨⟨f,first,cS,fa,ca,vs,q1,rfl,q3,q4,q5⟩,_⟩:=cZ;cases q1;rw[D_ q3,D_ q4,OH (l:=[pW Wg 0]) q5];rfl
  |[],cZ=>exact cZ.elim
  |_::_::_,cZ=>exact cZ.2.elim
 refine wp_seq ?_;refine yw ⟨[(5, .op 1 0),(0, .val (pW Wg 0)),(1, .rp x.l),(2, .rp [iv bh]),(3, .rp [iv deep]),(4, .rp [.val (.chan (some c))])],[setH [], .cells (Kn.zero.l 0) 88]⟩ vv ?_ λE2 V2 a2 cx tX=> ?_
 ·refine ak ?_;exact fW (by simp only[seval];simp[bB,Wk.refl]) rfl
 refine wp_seq (wp_seq ?_);refine yw ⟨ux x bh deep c (pW Wg 0),vX x bh Kn.zero⟩ tX ?_ λE3 V3 a3 vL pU=> ?_
 ·have bQ:x.l=[iv x.first,iv x.hours,iv x.am,ej x.seen,bk x.pieces,bk x.aB]:=rfl;refine aj ?_;simp only[seval,bQ];refine aL ((IH (x:=x) (n:=bh) ?_));(try simp only[seval]);exact fW (by unfold ux;simp only[seval];simp[bB,Wk.refl];exact Wk.refl _) rfl
 have ajl:a3.defers=[⟨.fn (.func 98) #[],#[pW Wg 0]⟩]:=vL.defers.trans (cx.defers.trans ajk);have akv:V3.role= .work c Wg [qx x deep bh]:=vL.role.trans (cx.role.trans (gZ.role.trans b8));have ajf:V3.deaf=0:=vL.deaf.trans (cx.deaf.trans (gZ.deaf.trans fl));refine ak8 (lv:=false) (bs:=[⟨.fn (.func 98) #[],#[pW Wg 0]⟩]) hx kJ hA (λe s' cH=>e= .normal/\s'=⟨ux x bh deep c (pW Wg 0),vX x bh (gT x deep bh)++[.obj (.deferred (some [])), .gone]⟩/\cH=[4]) ⟨rfl,rfl,rfl⟩ E3 V3 a3 _ pU ⟨by simp[ajl],by simp⟩ λae e E4 V4 a4 s4 ms4 ri q_ ajR he4 hΦ4=> ?_;obtain⟨rfl,rfl,rfl⟩:=hΦ4;cases e<;>first
  |exact he4.elim
  |skip
 have ajm:a4.defers=[{target:= .collected (E4.blk 4),args:=#[]},⟨.fn (.func 98) #[],#[pW Wg 0]⟩]:=ajR.1;have akw:V4.role= .work c Wg [qx x deep bh]:=ri.role.trans akv;have Qs:V4.deaf=0:=ri.deaf.trans ajf;have xb:bP (gT x deep bh):=M7 hx hA;generalize hW:gT x deep bh=W at q_ xb;have EB:=Kn.len xb 0;refine G4 (K:=λs'=>look s'.T 23=some (.val (.chan (some c)))/\look s'.T 24=some (.agg (W.l 0))/\s'.Sub ⟨ux x bh deep c (pW Wg 0),vX x bh W++[.obj (.deferred (some [])), .gone]⟩) 2 1 rfl (by kernel_rfl) q_ ?_ λE5 V5 a5 s5 gF ki hK=> ?_
 ·unfold ux vX;(try simp only[seval,EB]);rw[SW (i:=28) (by omega)];exact⟨rfl,fW (by simp only[seval];simp[bB,Wk.refl]) rfl⟩
 obtain⟨l23,l24,lO⟩:=hK;have EF:=ki.sub lO;have e23:a5.eval (.tmp 23)= .chan (some c):=tO (ki.tok _ _ l23).2;have e24:a5.eval (.tmp 24)= .agg (rE W (E5.blk 0)).toArray:=afU (ki.tok _ _ l24).2;have h0:V5.own (E5.blk 0)=some (rD W):=(EF.bw.obj 0 (setH W.aH) rfl).1;have h4:V5.own (E5.blk 4)=some (.deferred (some [])):=(EF.bw.obj 4 (.obj (.deferred (some []))) rfl).1;have aE:E5.blk 4≠E5.blk 0:=λe=>by rw[e,h0]at h4;cases h4
 have hb4:E5.blk 4=E4.blk 4:=gF.le.blk 4 (by rw[q_.bw.n];simp[vX]);refine Na rfl rfl ?_;refine⟨c,Wg,qx x deep bh,[],λb=>decide (b=E5.blk 0),e23,by rw[gF.role];exact akw,gF.deaf.trans Qs,⟨E5.blk 0,by rw[hW];exact e24,λb'=> ?_⟩, ?_⟩
 ·rw[hW];by_cases hb:b'=E5.blk 0
  ·subst hb;simp[h0]
  ·simp[hb]
 ·refine⟨trivial,E5.blk 4, ?_, ?_,rfl,gF.deaf.trans Qs⟩
  ·rw[hb4];exact gF.defers.trans ajm
  ·show (if decide (E5.blk 4=E5.blk 0)=true then none else V5.own (E5.blk 4))=_;rw[if_neg (by simpa using aE)];exact h4
theorem anm(r:Option Nat):AV.parts (.val (.chan r))=some [.val (.chan r)]:=rfl
theorem arz(r:Option Nat):lY (.chan r)=[.val (.chan r)]:=rfl
theorem alx(r:Option Nat):AV.leaf (.val (.chan r))=true:=rfl
theorem M8{x y:Code}{t:Nat}{b:Bool}(ah:At E V s a nt)(hl:look s.T t=some (.val (.bool b)))(h:WP lv P r (if b then x else y) Q a V):WP lv P r (.cond (.tmp t) x y) Q a V:=by
 have hd:=(ah.tok t _ hl).2;generalize hx:a.tmps.getD t undef=v at hd;cases hd;exact wp_cond (t:=b) hx h
end
theorem OD{E:Env}{f:Fn}{first cS:List AV}{v:Value}(h:ap E (.fn f first cS) v):∃fa ca,v= .func f fa ca/\cL E first fa/\cL E cS ca:=by
 cases h with
 |fn dW fA h1 h2=>exact⟨_,_,rfl,⟨dW,h1⟩,⟨fA,h2⟩⟩
theorem Bb{E:Env}{i o:Nat}{v:Value}(h:ap E (.op i o) v):v= .pointer (some ⟨E.blk i,o,none⟩):=by cases h;rfl
theorem F2(x:ai)(n:Nat):∀a∈x.l,Lt n a:=by
 intro a ha;simp only[ai.l,SK,SU,or_false]at ha;rcases ha with rfl|rfl|rfl|rfl|rfl|rfl
 ·exact .val _
 ·exact .val _
 ·exact .val _
 ·rw[aal];trivial
 ·rw[F0];trivial
 ·rw[F0];trivial
theorem ame(x:ai):Lt 0 (.rp x.l):=by
 rw[xN];exact F2 x 0
set_option maxRecDepth 100000 in
theorem wgT:M1 SD=147:=by kernel_rfl
def ci:Code->Code
 | .block _ c| .loop c| .scope c=>c
 |_=> .skip
noncomputable def uy:Code:=W8.body.getD .skip
noncomputable def mo:Code:=cs (cs (cs uy))
def sr:Obj:= .chan 0 #[] false 0 0 false
def iJ:List AV:=bv false:: .val (.map none)::(TG 15 (wv 0)++TG 11 (iv 0))
def dt (x:ai)(deep:Int)(c:Nat):List aa:=[.part 6 x.l 76, .part 1 [iv deep] 3, .cells iJ 88, .part 1 [.val (.chan (some c))] 139, .gone]
structure jA (x:ai)(deep:Int)(Hs:List aa)(E:Env)(c Wg:Nat)(rv dv fv:Value)(T:List (Nat×AV))(M:List aa)(E':Env)(V':View)(a':Act):Prop where
 ah:At E' V' ⟨T,Hs++(dt x deep c++M)⟩ a' 35
 lo:E.Lo E'
 main:E'.main=false
 defers:a'.defers=[]
 deaf:V'.deaf=0
 er:rv= .pointer (some ⟨E'.blk Hs.length,0,none⟩)
 ed:dv= .pointer (some ⟨E'.blk (Hs.length+1),0,none⟩)
 ef:fv= .pointer (some ⟨E'.blk (Hs.length+3),0,none⟩)
 dr:ap E' (.rp x.l) rv
 dd:ap E' (.rp [iv deep]) dv
 df:ap E' (.rp [.val (.chan (some c))]) fv
 fr:∀b y,E.fr b=some y->E'.fr b=some y/\b≠c/\b≠Wg
 ne:c≠Wg
section
variable {x:ai}{deep:Int}{Hs:List aa}{E:Env}{c Wg:Nat}{rv dv fv:Value}{T T':List (Nat×AV)}{M M' G:List aa}{E1 E2:Env}{V1 V2:View}{a1 a2:Act}
theorem jA.GM(h:jA x deep Hs E c Wg rv dv fv T M E1 V1 a1)(le:E1.Le E2)(bz:a2.defers=a1.defers)(fl:V2.deaf=V1.deaf)(ah:At E2 V2 ⟨T',Hs++(dt x deep c++M')⟩ a2 35):jA x deep Hs E c Wg rv dv fv T' M' E2 V2 a2:=by
 have hl:∀i,i<5->Hs.length+i<E1.n:=λi hi=>by rw[h.ah.bw.n];simp[dt];omega
 exact⟨ah,h.lo.trans le.lo,le.main.trans h.main,bz.trans h.defers,fl.trans h.deaf,by have:=le.blk _ (hl 0 (by omega));rw[Uv]at this;rw[this];exact h.er,by rw[le.blk _ (hl 1 (by omega))];exact h.ed,by rw[le.blk _ (hl 3 (by omega))];exact h.ef,h.dr.mono le,h.dd.mono le,h.df.mono le,λb y e=>by rw[le.fr];exact h.fr b y e,h.ne⟩
theorem jA.step(h:jA x deep Hs E c Wg rv dv fv T M E1 V1 a1)(hk:Kept E1 E2 V1 V2 a1 a2)(ah:At E2 V2 ⟨T',Hs++(dt x deep c++M')⟩ a2 35):jA x deep Hs E c Wg rv dv fv T' M' E2 V2 a2:=h.GM hk.le hk.defers hk.deaf ah
theorem jA.to(T':List (Nat×AV))(M':List aa)(h:jA x deep Hs E c Wg rv dv fv T M E1 V1 a1){cd:Code}{Q:Ex->Act->View->Prop}(hw:aY true SD none 35 cd ⟨T,Hs++(dt x deep c++M)⟩ (λe s'=>match e with| .normal=>s'.Sub ⟨T',Hs++(dt x deep c++M')⟩|_=>False))
  (hQ:∀E2 V2 a2,Kept E1 E2 V1 V2 a1 a2->jA x deep Hs E c Wg rv dv fv T' M' E2 V2 a2->Q .normal a2 V2):WP true SD none cd Q a1 V1:=
 yw ⟨T',Hs++(dt x deep c++M')⟩ h.ah hw λE2 V2 a2 hk ah=>hQ E2 V2 a2 hk (h.step hk ah)
theorem jA.cut(h:jA x deep Hs E c Wg rv dv fv T (M++G) E1 V1 a1)(hE:E.n<=Hs.length)(hT:∀p∈T',∃b,look T p.1=some b/\Wk b p.2/\Lt (Hs.length+5+M.length) p.2)(ay:bL (Hs++(dt x deep c++M))):jA x deep Hs E c Wg rv dv fv T' M {E1 with n:=Hs.length+5+M.length} V1 a1:=by
 have hlen:(Hs++(dt x deep c++M)).length=Hs.length+5+M.length:=by simp[dt];omega
 have hc:=h.ah.cut (s':=⟨T',Hs++(dt x deep c++M)⟩) ⟨λt a e=>by
  obtain⟨b,h1,h2,h3⟩:=hT _ (rG e);exact⟨b,h1,h2,by rw[hlen];exact h3⟩,⟨G,by simp⟩,ay⟩
 simp only[hlen]at hc;exact⟨hc,h.lo.cut (by omega),h.main,h.defers,h.deaf,h.er,h.ed,h.ef,h.dr.trim (by rw[xN];exact F2 x _),h.dd.trim (by simp[xN,eK]),h.df.trim (by simp[xN,eK]),h.fr,h.ne⟩
theorem Sl(hH:bL Hs)(hM:∀z∈M,eR (Hs.length+5+M.length) z):bL (Hs++(dt x deep c++M)):=by
 intro y hy;have hlen:(Hs++(dt x deep c++M)).length=Hs.length+5+M.length:=by simp[dt];omega
 rw[hlen];rcases SN.1 hy with h|h
 ·exact(hH y h).mono (by omega)
 ·rcases SN.1 h with h|h
  ·simp only[dt,SK,SU,or_false]at h;rcases h with rfl|rfl|rfl|rfl|rfl
   ·exactλa ha=>F2 x _ a ha
   ·intro a ha;simp at ha;subst ha;exact .val _
   ·intro a ha;simp only[iJ,SK,SN,W6]at ha;rcases ha with rfl|rfl|⟨_,rfl⟩|⟨_,rfl⟩<;>exact .val _
   ·intro a ha;simp at ha;subst ha;exact .val _
   ·trivial
  ·exact hM y h
end
def oK (x:ai)(deep:Int)(i:Nat):List (List Spec):=(SX i).map λk=>[qx x deep k]
theorem MK(x:ai)(deep:Int)(i:Nat):(oK x deep i).length=i:=by simp[oK]
theorem apy(x:ai)(deep:Int)(i:Nat):oK x deep (i+1)=oK x deep i++[[qx x deep i]]:=by simp[oK,UV]
def uV (x:ai):Prop:=∀bh,bh<=3->∀h∈kH x bh,jz h/\∀ns∈gp x h,∀a∈(iu x h ns).map (dB h ns),iL x a
noncomputable def jD (Hs:List aa)(Wg:Nat)(n:Int)(i:Nat):List (Nat×AV):=[(16,iv i),(15,iv n),(6, .val (pW Wg 0)),(5, .op (Hs.length+3) 0),(4, .op (Hs.length+2) 0),(3, .op (Hs.length+1) 0),(2, .op Hs.length 0)]
structure uR (x:ai)(deep:Int)(Hs:List aa)(E:Env)(c Wg:Nat)(rv dv fv:Value)(i:Nat)(T:List (Nat×AV))(M:List aa)(E':Env)(V':View)(a':Act):Prop where
 ok:jA x deep Hs E c Wg rv dv fv T M E' V' a'
 role:V'.role= .fork c Wg (oK x deep i)
 Ek:E'.fr c=some sr
 Bm:E'.fr Wg=some (wgBlock SD ((i:Int)* 4294967296) 0)
section
variable {x:ai}{deep n:Int}{Hs:List aa}{E:Env}{c Wg i:Nat}{rv dv fv:Value}{T T':List (Nat×AV)}{M M':List aa}{E1 E2:Env}{V1 V2:View}{a1 a2:Act}
theorem uR.step(h:uR x deep Hs E c Wg rv dv fv i T M E1 V1 a1)(hk:Kept E1 E2 V1 V2 a1 a2)(hc:jA x deep Hs E c Wg rv dv fv T' M' E2 V2 a2):uR x deep Hs E c Wg rv dv fv i T' M' E2 V2 a2:=
 ⟨hc,hk.role.trans h.role,by rw[hk.le.fr];exact h.Ek,by rw[hk.le.fr];exact h.Bm⟩
theorem alm(hx:x.Ok)(hA:uV x)(yP:E.n<=Hs.length)(ay:bL (Hs++(dt x deep c++[])))(h:uR x deep Hs E c Wg rv dv fv i (jD Hs Wg n i) [] E1 V1 a1)(hi:i<=3){cd:Code}{Q:Ex->Act->View->Prop}(hcd:cd=cs (cs (ci (ci (cs (cf mo))))))
  (hQ:∀E2 V2 a2,uR x deep Hs E c Wg rv dv fv (i+1) (jD Hs Wg n (i+1)) [] E2 V2 a2->Q .normal a2 V2):WP true SD none cd Q a1 V1:=by
 subst hcd;refine wp_seq (wp_block (wp_seq ?_));refine h.ok.to ((7, .op (Hs.length+5) 0)::jD Hs Wg n i) [.cells [iv i] 3] ?_ λE2 V2 a2 cx cT=> ?_
 ·unfold jD dt;refine ak ?_;exact fW (by simp only[seval];simp[bB,Wk.refl]) rfl
 have h2:=h.step cx cT;obtain⟨V3,g3,o3,r3,d3,FU,H6,Oy⟩:=cT.ah.bw.Gt (id:=Hs.length+5) (by rw[aS];rfl) 1 (by simp);rw[de]at H6;have J7:Kept E2 {E2 with I:=V3.ab} V2 V3 a2 a2:=⟨FU,rfl,rfl,r3,d3⟩;have d_:=cT.step (T':=(7, .op (Hs.length+5) 0)::jD Hs Wg n i) (M':=[.part 1 [iv i] 3]) J7 ⟨H6,cT.ah.tok.mono FU,cT.ah.size⟩;have h3:=h2.step J7 d_;refine WP.ghost g3 ?_;generalize{E2 with I:=V3.ab}=E3 at FU H6 Oy J7 d_ h3;have e6:a2.eval (.tmp 6)=pW Wg 0:=tO (d_.ah.tok 6 (.val (pW Wg 0)) rfl).2;obtain⟨w1,w2,w3⟩:=d_.ah.bw.fr Wg _ h3.Bm;have hrc:V3.role.chan≠some Wg:=by rw[h3.role];intro e;cases e;exact d_.ne rfl
 refine wp_seq (acV rfl rfl (am6 rfl rfl (by kernel_rfl) ?_));have cO:(#[ZI 6,ZS (.int .i64 1)]:Array Operand).map a2.eval=#[pW Wg 0, .int .i64 1]:=by
  simp only[List.map_toArray,UE,List.map_nil,e6];rfl
 rw[cO];refine(ad3 (n:=i) (sm:=M1 SD) (by omega) w1 w2 hrc d_.deaf).mono λo V4 hV=> ?_;obtain⟨rfl,rfl⟩:=hV;dsimp only;refine aro ?_;let wu:Obj:=wgBlock SD (((i+1:Nat):Int)* 4294967296) 0;show WP true SD none _ _ (a2.put (some 19) (.tuple #[])) (V3.upd Wg wu);have su:=d_.ah.bw.ain h3.Bm wu;let f4:Nat->Option Obj:=λb'=>if b'=Wg then some wu else E3.fr b';have l_:jA x deep Hs E c Wg rv dv fv ((7, .op (Hs.length+5) 0)::jD Hs Wg n i) [.part 1 [iv i] 3] (E3.frame f4) (V3.upd Wg wu) (a2.put (some 19) (.tuple #[])):=by
  refine⟨⟨su,λt av e=> ?_,(eD a2 (some 19) _).trans d_.ah.size⟩,d_.lo.trans (Env.FY E3 f4),d_.main,(put_defers a2 _ _).trans d_.defers,d_.deaf,d_.er,d_.ed,d_.ef,d_.dr.frame f4,d_.dd.frame f4,d_.df.frame f4,λb y e=> ?_,d_.ne⟩
  ·have aE:t≠19:=by
    intro et;subst et;simp[jD,look]at e
   have:=((d_.ah.tok.frame f4).put (d:=19) (a:= .aK []) (v:= .tuple #[]) (by rw[d_.ah.size];omega) (.aK rfl (by simp))) t av (by simp only[look];rw[if_neg (Ne.symm aE)];exact e);exact this
  ·obtain⟨q1,q2,q3⟩:=d_.fr b y e;exact⟨by show (if b=Wg then _ else _)=_;rw[if_neg q3];exact q1,q2,q3⟩
 have OL:ap (E3.frame f4) (.rp [iv i]) (.pointer (some ⟨(E3.frame f4).blk (Hs.length+5),0,none⟩)):=by
  have hl:Hs.length+5<E2.n:=by rw[cT.ah.bw.n];simp[dt]
  have e:(E3.frame f4).blk (Hs.length+5)=E2.blk (Hs.length+5):=FU.blk _ hl;rw[e];exact Oy.frame f4
 have Gx:(V3.upd Wg wu).role= .fork c Wg (oK x deep i):=h3.role;have PG:(E3.frame f4).fr c=some sr:=by
  show (if c=Wg then _ else _)=_;rw[if_neg d_.ne];exact h3.Ek
 have PH:(E3.frame f4).fr Wg=some wu:=by
  show (if Wg=Wg then _ else _)=_;rw[if_pos rfl]
 generalize E3.frame f4=E4 at l_ OL PG PH;generalize V3.upd Wg wu=V4 at l_ Gx;generalize a2.put (some 19) (.tuple #[])=a4 at l_;clear su;refine G4 (K:=λs'=>look s'.T 20=some (.fn (.func 97) [] [.val (pW Wg 0), .op Hs.length 0, .op (Hs.length+5) 0, .op (Hs.length+1) 0, .op (Hs.length+3) 0])/\s'.Sub ⟨jD Hs Wg n i,Hs++(dt x deep c++[.part 1 [iv i] 3])⟩) 1 1 rfl (by kernel_rfl) l_.ah ?_ λE5 V5 a5 s5 gF ki hK=> ?_
 ·unfold jD dt;(try simp only[seval,TS,Um,T5,TD]);exact fW (by simp only[seval];simp[bB,Wk.refl]) rfl
 obtain⟨l20,lO⟩:=hK;have EF:=ki.sub lO;have cD:=l_.step gF EF;have CX:V5.role= .fork c Wg (oK x deep i):=gF.role.trans Gx;have vn:E5.fr c=some sr:=by rw[gF.le.fr];exact PG
 have Bn:E5.fr Wg=some wu:=by rw[gF.le.fr];exact PH
 have dk5:=OL.mono gF.le;have p7:Hs.length+5<E4.n:=by rw[l_.ah.bw.n];simp[dt]
 refine Na rfl rfl ?_;obtain⟨c1,c2,c3⟩:=cD.ah.bw.fr c _ vn;obtain⟨v1,v2,v3⟩:=cD.ah.bw.fr Wg _ Bn;have e20:a5.eval (.tmp 20)= .func (.func 97) #[] #[pW Wg 0,rv, .pointer (some ⟨E5.blk (Hs.length+5),0,none⟩),dv,fv]:=by
  obtain⟨fa,ca,q1,q2,q3⟩:=OD (ki.tok 20 _ l20).2;rw[D_ q2]at q1;refine q1.trans ?_;have KA:ca.size=5:=q3.1;have k0:=tO (q3.2 0 _ rfl);have k1:=Bb (q3.2 1 _ rfl);have k2:=Bb (q3.2 2 _ rfl);have k3:=Bb (q3.2 3 _ rfl);have k4:=Bb (q3.2 4 _ rfl);rw[<- cD.er]at k1;rw[<- cD.ed]at k3;rw[<- cD.ef]at k4;congr 1;refine Array.ext KA λj h1 h2=> ?_;have hj:j=0\/j=1\/j=2\/j=3\/j=4:=by omega
  rw[SH,SJ (by omega)]at k0 k1 k2 k3 k4;rcases hj with rfl|rfl|rfl|rfl|rfl
  ·exact k0
  ·exact k1
  ·exact k2
  ·exact k3
  ·exact k4
 refine⟨rfl, .tmp 20,97,#[],_,rfl,e20,cD.deaf, .inl ⟨c,Wg,oK x deep i,qx x deep i,[],CX,c1, ?_, ?_,v2,λJ0 C=> ?_, ?_⟩⟩
 ·rw[v1,MK]
 ·rw[MK];omega
 ·have hb:E5.blk (Hs.length+5)=E4.blk (Hs.length+5):=gF.le.blk _ p7;rw[hb];have:=ark (J:=J0) (V:={ab:=V5.ab,own:=λ_=>none,deaf:=0,role:= .work c Wg [qx x deep i]}) C hx hi (hA i hi) (afI cD.ah.bw.I rfl rfl) (cD.dr.bare (ame x)) (dk5.bare (by simp[xN,eK])) (cD.dd.bare (by simp[xN,eK])) (cD.df.bare (by simp[xN,eK])) rfl rfl;simpa using this
 let V6:View:={V5 with role:= .fork c Wg (oK x deep i++[[qx x deep i]])};have H7:Conc (E5.frame E5.fr) V6 (Hs++(dt x deep c++[.part 1 [iv i] 3])):=by
  refine cD.ah.bw.xV (V':=V6) _ rfl (λ_ _ _ _ _ _ h=>h) (λg hg=> ?_) (λg hg=> ?_) (λhm=>by rw[cD.main]at hm;cases hm) cD.ah.bw.fr
  ·cases hg;exact⟨by show V5.own Wg≠none;rw[v1];simp,v2,v3⟩
  ·cases hg;exact⟨by show V5.own c≠none;rw[c1];simp,c2,c3⟩
 have oq:jA x deep Hs E c Wg rv dv fv (jD Hs Wg n i) [.part 1 [iv i] 3] E5 V6 (a5.put none undef):=⟨⟨H7,cD.ah.tok,cD.ah.size⟩,cD.lo,cD.main,cD.defers,cD.deaf,cD.er,cD.ed,cD.ef,cD.dr,cD.dd,cD.df,cD.fr,cD.ne⟩;show WP true SD none _ _ (a5.put none undef) V6;refine oq.to (jD Hs Wg n (i+1)) [.part 1 [iv i] 3] ?_ λE7 V7 a7 oy BM=> ?_
 ·unfold jD dt;have hw:SE.wrap ((i:Int)+1)=(i:Int)+1:=bD _ (by omega);refine aj ?_;simp only[seval,hw];exact fW (by simp only[seval];simp[bB,Wk.refl]) rfl
 have fj:=jA.cut (M:=[]) (T':=jD Hs Wg n (i+1)) BM yP (by
  unfold jD;simp only[WA,SU,false_imp_iff,implies_true,and_true,look,YI,if_false,if_true,Te,exists_eq_left',Wk.refl,true_and,eK,aai,UA];omega) ay
 refine hQ _ V7 a7 ⟨fj, ?_, ?_, ?_⟩
 ·rw[oy.role,apy]
 ·show E7.fr c=_;rw[oy.le.fr];exact vn
 ·show E7.fr Wg=_;rw[oy.le.fr];exact Bn
end
namespace Tk
theorem abc{hs:List (List Int)}{h:List Int}(hn:hs.Nodup):(iG hs h).Nodup:=by
 unfold iG;split
 ·exact hn
 ·rename_i hm;rw[UC];exact⟨hn,by simp,λa ha b hb=>by rw[S5.1 hb];exactλe=>hm (e▸ha)⟩
theorem aqq{x:ai}{deep:Int}{Q:Kn}{t:List Int}(hn:Q.aH.Nodup):(eF x deep Q t).aH.Nodup:=by
 have hB:(iM Q t).aH.Nodup:=by unfold iM;split<;>exact hn
 unfold eF;dsimp only;generalize iM Q t=R at hB;split
 ·exact hB
 ·split
  ·exact abc hB
  ·exact hB
theorem ari{x:ai}{deep:Int}{bh:Nat}:(gT x deep bh).aH.Nodup:=by
 unfold gT;have key:∀(ts:List (List Int))(Q:Kn),Q.aH.Nodup->(ts.foldl (eF x deep) Q).aH.Nodup:=by
  intro ts;induction ts with
  |nil=>exactλQ h=>h
  |cons t ts ih=>exactλQ h=>ih _ (aqq h)
 exact key _ _ V_
theorem Pt:∀{l hs:List (List Int)},(∀y∈hs,y.length=4)->(∀y∈l,y.length=4)->∀y∈l.foldl iG hs,y.length=4
 |[],hs,h1,_=>h1
 |a::l,hs,h1,h2=>by rw[Ux];exact Pt (aba h1 (h2 a (by simp))) (λy hy=>h2 y (by simp[hy]))
theorem Ge{l m:List Nat}(h:l.length=m.length):(lT l m).length=l.length:=by simp[lT,h]
theorem Gh{l m:List Nat}(h1:∀n∈l,n<65536)(h2:∀n∈m,n<65536):∀n∈lT l m,n<65536:=λn hn=>by
 unfold lT at hn;rw[Uz]at hn;obtain⟨i,hi⟩:=hn;rw[List.getElem?_zipWith]at hi;cases ha:l[i]?with
 |none=>rw[ha]at hi;cases hi
 |some a=>
  cases hb:m[i]?with
  |none=>rw[ha,hb]at hi;cases hi
  |some b=>
   rw[ha,hb]at hi;cases hi;exact pA (h1 _ (S_ ha)) (h2 _ (S_ hb))
theorem Sa{F G:Kn}{hs:List (List Int)}(hF:bP F)(hG:bP G)(hp:hs.Perm G.aH):bP (gS F hs G):=by
 unfold gS;split
 ·refine⟨(Ge (by rw[hF.aA,hG.aA])).trans hF.aA,(Ge (by rw[hF.hours,hG.hours])).trans hF.hours,(Ge (by rw[hF.less,hG.less])).trans hF.less,(Ge (by rw[hF.aV,hG.aV])).trans hF.aV, ?_,Gh hF.mr hG.mr,Gh hF.mL hG.mL,Gh hF.mV hG.mV,Gh hF.lU hG.lU,Pt hF.h4 λy hy=>hG.h4 y (hp.mem_iff.1 hy)⟩;split
  ·exact hG.first
  ·exact hF.first
 ·exact hF
inductive m9 (x:ai)(deep:Int):List Nat->Kn->Prop where
 |nil:m9 x deep [] Kn.zero
 |snoc {js:List Nat} {F:Kn} {j:Nat} {hs:List (List Int)} (h:m9 x deep js F) (hp:hs.Perm (gT x deep j).aH):m9 x deep (js++[j]) (gS F hs (gT x deep j))
end Tk
theorem uV.work{x:ai}{deep:Int}{j:Nat}(hA:uV x)(hx:x.Ok)(hj:j<=3):bP (gT x deep j):=M7 hx (hA j hj)
def mY (x:ai)(deep:Int)(n:Nat)(js:List Nat):List (List Spec):=(SX n).map λk=>if k∈js then[]else[qx x deep k]
theorem apB(x:ai)(deep:Int)(n:Nat):mY x deep n []=oK x deep n:=by simp[mY,oK]
theorem apA{x:ai}{deep:Int}{n j:Nat}{js:List Nat}{sp:Spec}{S:List Spec}(h:(mY x deep n js)[j]?=some (sp::S)):j<n/\j∉js/\sp=qx x deep j/\S=[]:=by
 unfold mY at h;rw[Ti]at h;obtain⟨k,h1,h2⟩:=Tl.1 h;have hk:j<n/\k=j:=by
  have:=SM.1 h1;obtain⟨h3,h4⟩:=this;simp at h3 h4;exact⟨h3,h4.symm⟩
 obtain⟨h3,rfl⟩:=hk;split at h2
 ·cases h2
 ·rename_i hm;cases h2;exact⟨h3,hm,rfl,rfl⟩
theorem apC{x:ai}{deep:Int}{n j:Nat}{js:List Nat}:(mY x deep n js).set j []=mY x deep n (js++[j]):=by
 apply Zw;intro k;unfold mY;rw[UD,Ti,Ti,Tj,List.length_range];by_cases hk:k<n
 ·rw[YV hk];by_cases hj:j=k
  ·subst hj;rw[if_pos rfl,if_pos hk];simp
  ·rw[if_neg hj];have e:(k∈js++[j])<->k∈js:=by
    rw[SN,S5];exact⟨λh=>h.elim id λe=>absurd e.symm hj, .inl⟩
   simp only[UB,e]
 ·have e:(SX n)[k]?=none:=Us (by simp;omega);rw[e];by_cases hj:j=k
  ·subst hj;rw[if_pos rfl,if_neg hk];rfl
  ·rw[if_neg hj];rfl
theorem apz{x:ai}{deep:Int}{n:Nat}{js:List Nat}(h:∀S∈mY x deep n js,S=[]):∀k,k<n->k∈js:=λk hk=>by
 apply To;intro hn;have:=h [qx x deep k] (Th.2 ⟨k,by simpa using hk,by rw[if_neg hn]⟩);cases this
theorem alj{E:Env}{K:Kn}{mp b:Nat}(hb:E.blk mp=b)(hm:mp<E.n):ap E (.agg (K.l mp)) (.agg (rE K b).toArray):=by
 subst hb;refine .agg (by simp[Kn.l,rE]) λi a e=> ?_
 match i with
 |0=>cases e;exact .val _
 |1=>cases e;exact .mp hm
 |i+2=>
  have e':(K.l mp)[i+2]?=((K.aA.map (λn:Nat=>SG .u16 n)++(K.hours.map (λn:Nat=>SG .u16 n)++(K.less.map (λn:Nat=>SG .u16 n)++(K.aV.map (λn:Nat=>SG .u16 n)++K.first.map (SG .i64))))).map AV.val)[i]?:=by
   simp[Kn.l,wv,iv,XL]
  rw[e',Ti]at e;obtain⟨z,h1,rfl⟩:=Tl.1 e;have h2:(rE K (E.blk mp))[i+2]?=some z:=h1;rw[SH,UQ,h2];exact .val _
theorem kv(K:Kn)(mp:Nat):∀a∈K.l mp,a.leaf=true:=λa ha=>by
 simp only[Kn.l,SK,SN,Th]at ha;rcases ha with rfl|rfl|⟨_,_,rfl⟩|⟨_,_,rfl⟩|⟨_,_,rfl⟩|⟨_,_,rfl⟩|⟨_,_,rfl⟩<;>rfl
theorem aeO{lv:Bool}{P:Program}{r:Option Nat}{nt:Nat}{E:Env}{V:View}{a:Act}{s:AS}{c:Code}{Q:Ex->Act->View->Prop}{α:Type}(p:α->Prop)(S3:α->AS)(ah:At E V s a nt)(h:aY lv P r nt c s (λe s'=>match e with| .normal=>∃q,p q/\s'.Sub (S3 q)|_=>False))(hQ:∀q E' V' a',p q->Kept E E' V V' a a'->At E' V' (S3 q) a' nt->Q .normal a' V'):WP lv P r c Q a V:=
 h E V a Q ah λae e E' V' a' s' hk aR he hΦ=>by
  cases ae<;>cases e<;>first
   |exact he.elim
   |exact hΦ.elim
   |(obtain⟨q,h1,h2⟩:=hΦ
     exact hQ q E' V' a' h1 hk (aR.sub h2))
theorem afW{E:Env}(l:List Value):ap E (.agg (l.map .val)) (.agg l.toArray):=by
 refine .agg (by simp) λi a e=> ?_;rw[Ti]at e;obtain⟨z,h1,rfl⟩:=Tl.1 e;rw[SH,UQ,h1];exact .val _
def Nk:List Value:= .bool false:: .map none::(TG 15 (.int .u16 0)++TG 11 (.int .i64 0))
def io (Hs:List aa)(F:Kn):List aa:=[setH F.aH, .cells (F.l (Hs.length+5)) 88]
noncomputable def jr (Hs:List aa):List (Nat×AV):=[(8, .op (Hs.length+6) 0),(5, .op (Hs.length+3) 0),(4, .op (Hs.length+2) 0)]
structure DE (x:ai)(deep:Int)(n:Nat)(Hs:List aa)(E:Env)(c Wg:Nat)(rv dv fv:Value)(js:List Nat)(F:Kn)(T:List (Nat×AV))(G:List aa)(E':Env)(V':View)(a':Act):Prop where
 ok:jA x deep Hs E c Wg rv dv fv T (io Hs F++G) E' V' a'
 role:V'.role= .recv c Wg (mY x deep n js)
 Sb:m9 x deep js F
 kn:bP F
 nodup:js.Nodup
 lt:∀j∈js,j<n
noncomputable def Sk:Code:=ci (ci (cs (cs (cs mo))))
theorem alk{x:ai}{deep:Int}{Hs:List aa}{c:Nat}{F:Kn}(hH:bL Hs):bL (Hs++(dt x deep c++io Hs F)):=by
 refine Sl hH λz hz=> ?_;simp only[io,SK,SU,or_false]at hz;rcases hz with rfl|rfl
 ·trivial
 ·exact xH (by simp[io])
theorem amm{V:View}{Im:cz}{b:Nat}{K:Kn}{w:World}(hS:Sat V w)(hI:∀b o x,Im b o=some x->w.cell? ⟨b,o,none⟩=some x)(hb:w.heap[b]?=some (rD K)):∀o,V.ab b o=none/\Im b o=none:=λo=>by
 have hc:w.cell? ⟨b,o,none⟩=none:=by simp[Uj,hb,rD]
 constructor
 ·cases h:V.ab b o with
  |none=>rfl
  |some v=>have:=hS.ab b o v h;rw[hc]at this;cases this
 ·cases h:Im b o with
  |none=>rfl
  |some v=>have:=hI b o v h;rw[hc]at this;cases this
section
variable {x:ai}{deep:Int}{n:Nat}{Hs:List aa}{E:Env}{c Wg:Nat}{js:List Nat}{D:Kn}{rv dv fv:Value}{T T':List (Nat×AV)}{G G':List aa}{E1 E2:Env}{V1 V2:View}{a1 a2:Act}
theorem aln(hx:x.Ok)(hA:uV x)(Rc:n<=4)(yP:E.n<=Hs.length)(cm:bL Hs)(h:DE x deep n Hs E c Wg rv dv fv js D (jr Hs) [] E1 V1 a1){Q:Ex->Act->View->Prop}
  (hQ:∀j D' E2 V2 a2,j∉js->DE x deep n Hs E c Wg rv dv fv (js++[j]) D' (jr Hs) [] E2 V2 a2->Q .normal a2 V2)
  (EA:∀E2 V2 a2 G,At E2 V2 ⟨[(4, .op (Hs.length+2) 0)],Hs++([.part 6 x.l 76, .part 1 [iv deep] 3, .cells (D.l (Hs.length+5)) 88, .part 1 [.val (.chan (some c))] 139, .gone,setH D.aH]++G)⟩ a2 35->E.Lo E2->a2.defers=[]->V2.deaf=0->V2.role= .plain->(∀b y,E.fr b=some y->E2.fr b=some y)->(∀k,k<n->k∈js)->Q .ret a2 V2):WP true SD none Sk Q a1 V1:=by
 refine wp_block (id:=3) (wp_seq ?_);refine G4 (K:=λs'=>look s'.T 26=some (.val (.chan (some c)))/\s'.Sub ⟨jr Hs,Hs++(dt x deep c++(io Hs D++[]))⟩) 1 7 rfl (by kernel_rfl) h.ok.ah ?_ λE3 V3 a3 s3 vL pU hK=> ?_
 ·unfold jr dt io;(try simp only[seval]);exact fW (by simp only[seval];simp[bB,Wk.refl]) rfl
 obtain⟨l26,lO⟩:=hK;have d_:=h.ok.step vL (pU.sub lO);have ro3:V3.role= .recv c Wg (mY x deep n js):=vL.role.trans h.role;have e26:a3.eval (.tmp 26)= .chan (some c):=tO (pU.tok 26 _ l26).2;obtain⟨ti,vU,hzi⟩:=Tc.1 F.Ny;refine arn rfl rfl (.inr ?_);refine⟨rfl,c,Wg,mY x deep n js, .both,88,ti,_,e26,by kernel_rfl,vU,hzi,ro3,d_.deaf,λj sp S v Im Ow r1 r2 r3 r4 r5=> ?_,λhS=> ?_⟩
 ·
  obtain⟨o_,dp,rfl,rfl⟩:=apA r1;obtain⟨b,hv,Jj⟩:=r2;have xb:bP (gT x deep j):=hA.work hx (by omega);have P7:(gT x deep j).aH.Nodup:=ari;obtain⟨W,hW⟩:∃W,W=gT x deep j:=⟨_,rfl⟩;rw[<- hW]at hv Jj xb P7;let pI:View:={V3 with ab:=λb o=>match V3.ab b o with|some x=>some x|none=>Im b o,role:= .recv c Wg ((mY x deep n js).set j [])};obtain⟨St,Om⟩:=d_.ah.bw.alM (V':=pI) rfl (λb o v e=>by show (match V3.ab b o with|some x=>some x|none=>Im b o)=some v;rw[e]) (λb o hb e=>by
   show (match V3.ab b o with|some x=>some x|none=>Im b o)=none;rw[e];apply To;intro aE;exact absurd e (r4 b o hb aE)) rfl rfl (λhm=>by rw[d_.main]at hm;cases hm)
  have Ji:Ow b=some (rD W):=by rw[Jj];simp
  obtain⟨w,hSw,hIw,hww⟩:=r5;have jG:=amm hSw hIw (hww b _ Ji);have jj:V3.own b=none:=by
   apply To;intro aE;have:=r3 b aE;rw[Ji]at this;cases this
  have JK:pI.fresh b:=⟨jj,λo=>by
   show (match V3.ab b o with|some x=>some x|none=>Im b o)=none;rw[(jG o).1];exact(jG o).2⟩
  have ajL:E3.n=Hs.length+7:=by rw[d_.ah.bw.n];simp[dt,io]
  have su:=Om.add JK (rD W) (x:= .obj (rD W)) ⟨by rw[Env.dS];simp[View.upd],rfl,rfl,λo=>by rw[Env.dS];exact JK.2 o⟩ (λb' e=>by
   simp only[bN,Env.dS,Te]at e;exact e.symm)
  have P4:pI.upd b (rD W)={V3 with ab:=λb o=>match V3.ab b o with|some x=>some x|none=>Im b o,own:=λb=>match V3.own b with|some x=>some x|none=>Ow b,role:= .recv c Wg ((mY x deep n js).set j [])}:=by
   have:(λb'=>if b'=b then some (rD W)else V3.own b')=λb=>match V3.own b with|some x=>some x|none=>Ow b:=by
    funext b';by_cases hb:b'=b
    ·subst hb;rw[if_pos rfl,jj,Ji]
    ·rw[if_neg hb];cases dG:V3.own b' with
     |some y=>rfl
     |none=>simp[Jj,hb]
   show View.mk _ _ _ _=View.mk _ _ _ _;congr 1
  have PU:(({E3 with I:=pI.ab}:Env).add b pI.ab).blk (Hs.length+7)=b:=by rw[<- ajL];exact Env.dS ({E3 with I:=pI.ab}:Env) b _
  have Ln:E3.Le (({E3 with I:=pI.ab}:Env).add b pI.ab):=St.trans (Env.qn _ b λ_ _ _ e=>e);have ajS:(({E3 with I:=pI.ab}:Env).add b pI.ab).n=Hs.length+8:=by show E3.n+1=_;omega
  rw[P4]at su;generalize hE4:(({E3 with I:=pI.ab}:Env).add b pI.ab)=E4 at su PU Ln ajS;have bm:ap E4 (.aK [.agg (W.l (Hs.length+7)),bv true]) (.tuple #[v, .bool true]):=by
   subst hv;refine .aK rfl λq a e=> ?_
   match q,e with
   |0,e=>cases e;exact alj PU (by omega)
   |1,e=>cases e;exact .val _
  have aiR:Hs++(dt x deep c++(io Hs D++[]))++[aa.obj (rD W)]=Hs++(dt x deep c++(io Hs D++[setH W.aH])):=by simp[setH,rD]
  rw[aiR]at su;clear P4 hE4 Om St JK;generalize P5:({V3 with ab:=λb o=>match V3.ab b o with|some x=>some x|none=>Im b o,own:=λb=>match V3.own b with|some x=>some x|none=>Ow b,role:= .recv c Wg ((mY x deep n js).set j [])}:View)=V4 at su;have Gx:V4.role= .recv c Wg (mY x deep n (js++[j])):=by rw[<- P5];show m_.recv c Wg _=_;rw[apC]
  have de4:V4.deaf=V3.deaf:=by rw[<- P5]
  have q_:At E4 V4 ⟨(27, .aK [.agg (W.l (Hs.length+7)),bv true])::jr Hs,Hs++(dt x deep c++(io Hs D++[setH W.aH]))⟩ (a3.put (some 27) (.tuple #[v, .bool true])) 35:=⟨su,(d_.ah.tok.mono Ln).put (by rw[d_.ah.size];omega) bm,(eD a3 (some 27) _).trans d_.ah.size⟩;have l_:jA x deep Hs E c Wg rv dv fv ((27, .aK [.agg (W.l (Hs.length+7)),bv true])::jr Hs) (io Hs D++[setH W.aH]) E4 V4 (a3.put (some 27) (.tuple #[v, .bool true])):=
   d_.GM Ln (put_defers a3 _ _) de4 q_
  have EB:=Kn.len xb (Hs.length+7);refine Nb ⟨(10,bv true)::(9, .op (Hs.length+8) 0)::jr Hs,Hs++(dt x deep c++(io Hs D++[setH W.aH, .cells (W.l (Hs.length+7)) 88]))⟩ rfl (by kernel_rfl) q_ ?_ λE5 V5 a5 gF ki=> ?_
  ·unfold jr dt io;(try simp only[seval,EB]);exact⟨kv _ _,fW (by simp only[seval];simp[bB,Wk.refl]) rfl⟩
  have cD:=l_.step gF ki;have CX:V5.role= .recv c Wg (mY x deep n (js++[j])):=gF.role.trans Gx;refine wp_seq (wp_seq ?_);refine cD.to ((31,bv false)::(9, .op (Hs.length+8) 0)::jr Hs) (io Hs D++[setH W.aH, .cells (W.l (Hs.length+7)) 88]) ?_ λE6 V6 a6 J6 oq=> ?_
  ·unfold jr dt io;refine ak ?_;exact fW (by simp only[seval];simp[bB,Wk.refl]) rfl
  refine M8 oq.ah rfl ?_;refine wp_skip ?_;refine aeO (λhs:List (List Int)=>hs.Perm W.aH) (λhs=>⟨jr Hs,Hs++(dt x deep c++(io Hs (gS D hs W)++[setH W.aH, .cells (W.l (Hs.length+7)) 88]))⟩) oq.ah ?_ λhs E7 V7 a7 Kr oy Js=> ?_
  ·unfold jr dt io;refine aj ?_;simp only[seval,EB];rw[SW (i:=28) (by omega)];refine aL ((agQ (fp:=Hs.length+6) (mp:=Hs.length+5) (mg:=Hs.length+7) h.kn xb (by omega) (by omega) (by rw[aS];rfl) (by rw[aS];rfl) (by rw[aS];rfl) P7 ?_));intro hs hp;rw[de,de];(try simp only[seval]);exact⟨hs,hp,fW (by simp only[seval];simp[bB,Wk.refl]) rfl⟩
  have BM:=oq.step oy Js;have fj:=jA.cut (T':=jr Hs) BM yP (by
   unfold jr io;simp only[WA,SU,false_imp_iff,implies_true,and_true,look,YI,if_false,if_true,Te,exists_eq_left',Wk.refl,true_and,aai,T7,UA];omega) (alk cm)
  have dL:m9 x deep (js++[j]) (gS D hs W):=by
   rw[hW]at Kr⊢;exact h.Sb.snoc Kr
  refine hQ j (gS D hs W) _ V7 a7 dp ⟨by rw[SI];exact fj, ?_,dL,Sa h.kn xb Kr, ?_, ?_⟩
  ·rw[oy.role,J6.role];exact CX
  ·rw[UC];exact⟨h.nodup,by simp,λa ha b hb=>by rw[S5.1 hb];exactλe=>dp (e▸ha)⟩
  ·intro k hk;rcases SN.1 hk with h'|h'
   ·exact h.lt k h'
   ·rw[S5.1 h'];exact o_
 ·
  have fO:=apz hS;let V4:View:={V3 with role:= .plain};have su:Conc (E3.frame E3.fr) V4 (Hs++(dt x deep c++(io Hs D++[]))):=
   d_.ah.bw.xV (V':=V4) _ rfl (λ_ _ _ _ _ _ h=>h) (λg hg=>by cases hg) (λg hg=>by cases hg) (λhm=>by rw[d_.main]at hm;cases hm) d_.ah.bw.fr
  have bm:ap E3 (.aK [.agg iJ,bv false]) (.tuple #[.agg Nk.toArray, .bool false]):=by
   refine .aK rfl λq a e=> ?_
   match q,e with
   |0,e=>cases e;exact afW Nk
   |1,e=>cases e;exact .val _
  have q_:At E3 V4 ⟨(27, .aK [.agg iJ,bv false])::jr Hs,Hs++(dt x deep c++(io Hs D++[]))⟩ (a3.put (some 27) (.tuple #[.agg Nk.toArray, .bool false])) 35:=⟨su,d_.ah.tok.put (by rw[d_.ah.size];omega) bm,(eD a3 (some 27) _).trans d_.ah.size⟩;have l_:=d_.GM (V2:=V4) (Env.Le.refl E3) (put_defers a3 (some 27) _) rfl q_;have mS:iJ.length=28:=rfl;have bU:=Kn.len h.kn (Hs.length+5);refine Nb ⟨(10,bv false)::jr Hs,Hs++(dt x deep c++(io Hs D++[.cells iJ 88]))⟩ rfl (by kernel_rfl) q_ ?_ λE5 V5 a5 gF ki=> ?_
  ·unfold jr dt io;(try simp only[seval,mS]);exact⟨λa ha=>by simp only[iJ,SK,SN,W6]at ha;rcases ha with rfl|rfl|⟨_,rfl⟩|⟨_,rfl⟩<;>rfl,fW (by simp only[seval];simp[bB,Wk.refl]) rfl⟩
  have cD:=l_.step gF ki;refine wp_seq (wp_seq ?_);refine cD.to ((31,bv true)::jr Hs) (io Hs D++[.cells iJ 88]) ?_ λE6 V6 a6 J6 oq=> ?_
  ·unfold jr dt io;refine ak ?_;exact fW (by simp only[seval];simp[bB,Wk.refl]) rfl
  refine M8 oq.ah rfl ?_;refine wp_seq ?_;refine yw ⟨[(4, .op (Hs.length+2) 0)],Hs++([.part 6 x.l 76, .part 1 [iv deep] 3, .cells (D.l (Hs.length+5)) 88, .part 1 [.val (.chan (some c))] 139, .gone,setH D.aH]++[.cells (D.l (Hs.length+5)) 88, .cells iJ 88])⟩ oq.ah ?_ λE7 V7 a7 oy Js=> ?_
  ·unfold jr dt io;refine aj ?_;simp only[seval,bU,mS];rw[SW (i:=28) (l:=D.l (Hs.length+5)) (by omega)];exact⟨bU,by omega,kv _ _,fW (by simp only[seval];simp[bB,Wk.refl]) (by rw[bU,TK (by rw[mS];exact SO _),SI])⟩
  refine wp_ret ?_;exact EA E7 V7 a7 _ Js (oq.lo.trans oy.le.lo) (oy.defers.trans oq.defers) (oy.deaf.trans oq.deaf) (oy.role.trans (J6.role.trans gF.role)) (λb y e=>by rw[oy.le.fr];exact(oq.fr b y e).1) fO
end
open Go.Conc Go.Proofs Go.Gg.Tk
theorem aoE{P:Program}{rs:List ResultVar}{fn:Func}{nt:Nat}{k kp:AV->List aa->Prop}{E E':Env}{V V':View}{H L G:List aa}{T:List (Nat×AV)}{a':Act}{av:AV}(hr:fn.results=rs.toArray)(ah:At E' V' ⟨T,H.map strip++(L++G)⟩ a' nt)(pc:E.Lo E')(hc:Conc E V H)(b8:V'.role=V.role)(fl:V'.deaf=V.deaf)(hf:∀b y,E.fr b=some y->E'.fr b=some y)
  (gG:hZ P ⟨T,H.map strip++(L++G)⟩ rs=some [av]) (hL:L.map strip=L) (ay:bL (H.map strip++L)) (hlt:Lt (H.length+L.length) av) (hk:k av (H++L)):∃v,aO P V' (results fn a'.tmps) (λx aU=>x=v/\aU=V') (λ_ _=>False)/\gW E V k kp (.ret v) V':=by
 obtain⟨vs,hl,lQ,xx⟩:=Gv ah rs [av] gG;obtain⟨v,rfl⟩:∃v,vs=[v]:=List.length_eq_one_iff.1 hl;have bm:ap E' av v:=lQ 0 av rfl;have qf:aO P V' (results fn a'.tmps) (λx aU=>x=v/\aU=V') (λ_ _=>False):=by
  unfold results;rw[hr,Xi];refine az ?_;refine az (xx ?_);refine aq (aq ⟨?_,rfl⟩);simp
 have JA:=ah.bw;dsimp only at JA;rw[<- SC]at JA;have fj:=JA.trim (H:=H.map strip++L) (G:=G) ay;have hlen:(H.map strip++L).length=H.length+L.length:=by simp
 rw[hlen]at fj;have uh:(H++L).map strip=H.map strip++L:=by rw[Tv,hL]
 rw[<- uh]at fj;refine⟨v,qf,av,((({E' with n:=H.length+L.length}:Env).fC E.main).frame E.fr),H++L, ?_,b8,fl, ?_,fj.aov E.main E.fr (λk e=> ?_) (λe=>by rw[b8,fl];exact hc.top e) hf,hk⟩
 ·refine Env.Lo.le (E':={E' with n:=H.length+L.length}) ⟨pc.I, ?_,pc.blk,pc.fK,pc.room⟩;show E.n<=H.length+L.length;rw[hc.n];omega
 ·exact((bm.trim hlt).fC E.main).frame E.fr
 ·by_cases B1:k<H.length
  ·rw[SY B1]at e;exact hc.obj k _ e
  ·rw[Tg (by omega)]at e;have h2:(L.map strip)[k-H.length]?=some .gone:=(by rw[Ti,e];rfl);rw[hL,e]at h2;cases h2
section
variable {x:ai}{deep:Int}{Hs:List aa}{E:Env}{c Wg p:Nat}{rv dv fv:Value}{T:List (Nat×AV)}{E1:Env}{V1:View}{a1:Act}
theorem alo(hx:x.Ok)(hA:uV x)(hp:x.am=p)(yP:E.n<=Hs.length)(cm:bL Hs)(h:uR x deep Hs E c Wg rv dv fv 0 [(6, .val (pW Wg 0)),(5, .op (Hs.length+3) 0),(4, .op (Hs.length+2) 0),(3, .op (Hs.length+1) 0),(2, .op Hs.length 0)] [] E1 V1 a1){Q:Ex->Act->View->Prop}
  (hQ:∀js D E2 V2 a2 G,js.Perm (SX (p+1))->m9 x deep js D->bP D->At E2 V2 ⟨[(4, .op (Hs.length+2) 0)],Hs++([.part 6 x.l 76, .part 1 [iv deep] 3, .cells (D.l (Hs.length+5)) 88, .part 1 [.val (.chan (some c))] 139, .gone,setH D.aH]++G)⟩ a2 35->E.Lo E2->a2.defers=[]->V2.deaf=0->V2.role= .plain->(∀b y,E.fr b=some y->E2.fr b=some y)->Q .ret a2 V2):WP true SD none mo Q a1 V1:=by
 have hp3:p<=3:=by have:=hx.am;omega
 have aj5:bL (Hs++(dt x deep c++[])):=Sl cm (by simp);refine wp_seq (x:=cf mo) (wp_seq (x:=cf (cf mo)) ?_);refine h.ok.to (jD Hs Wg ((p+1:Nat):Int) 0) [] ?_ λE2 V2 a2 cx cT=> ?_
 ·show aY true SD none 35 (cf (cf mo)) _ _;unfold jD dt;have bQ:x.l=[iv x.first,iv x.hours,iv x.am,ej x.seen,bk x.pieces,bk x.aB]:=rfl;have hw:SE.wrap (x.am+1)=((p+1:Nat):Int):=by rw[hp,bD _ (by omega)];rfl
  refine aj ?_;simp only[seval,bQ,hw];exact fW (by simp only[seval];simp[bB,Wk.refl]) rfl
 have h2:uR x deep Hs E c Wg rv dv fv 0 (jD Hs Wg ((p+1:Nat):Int) 0) [] E2 V2 a2:=h.step cx cT;refine wp_block (id:=0) (c:= .loop (ci (ci (cs (cf mo))))) ?_;refine wp_loop (λm a' V'=>∃E' i,m=p+1-i/\i<=p+1/\uR x deep Hs E c Wg rv dv fv i (jD Hs Wg ((p+1:Nat):Int) i) [] E' V' a') (p+1) ⟨E2,0,rfl,by omega,h2⟩ λm a3 V3 hI=> ?_;obtain⟨E3,i,rfl,hi,h3⟩:=hI;refine wp_seq (x:=cf (ci (ci (cs (cf mo))))) (y:=cs (ci (ci (cs (cf mo))))) ?_;refine h3.ok.to ((17,bv (decide ((i:Int)<((p+1:Nat):Int))))::jD Hs Wg ((p+1:Nat):Int) i) [] ?_ λE4 V4 a4 ri l_=> ?_
 ·show aY true SD none 35 (cf (ci (ci (cs (cf mo))))) _ _;unfold jD dt;refine ak ?_;exact fW (by simp only[seval];simp[bB,Wk.refl]) rfl
 have qV:=h3.step ri l_;refine wp_seq (x:= .cond (.tmp 17) .skip (.exit 0)) (y:=cs (cs (ci (ci (cs (cf mo)))))) (M8 l_.ah rfl ?_);by_cases QH:i<p+1
 ·rw[show decide ((i:Int)<((p+1:Nat):Int))=true from decide_eq_true (by omega)];refine wp_skip ?_;have ai0:jA x deep Hs E c Wg rv dv fv (jD Hs Wg ((p+1:Nat):Int) i) [] E4 V4 a4:=l_.GM (Env.Le.refl E4) rfl rfl (l_.ah.sub (fW (by unfold jD dt;simp only[seval];simp[bB,Wk.refl]) rfl));exact alm hx hA yP aj5 ⟨ai0,qV.role,qV.Ek,qV.Bm⟩ (by omega) rfl λE5 V5 a5 h5=>⟨p+1-(i+1),by omega,E5,i+1,rfl,by omega,h5⟩
 have dK:i=p+1:=by omega
 subst dK;rw[show decide ((((p+1:Nat):Int))<((p+1:Nat):Int))=false by simp];refine wp_exit ?_;refine wp_seq (x:=cf (cs mo)) (y:=cs (cs mo)) ?_;refine G4 (K:=λs'=>look s'.T 22=some (.fn (.func 100) [] [.val (pW Wg 0), .op (Hs.length+3) 0])/\s'.Sub ⟨[(5, .op (Hs.length+3) 0),(4, .op (Hs.length+2) 0)],Hs++(dt x deep c++[])⟩) 1 1 rfl (by kernel_rfl) l_.ah ?_ λE5 V5 a5 s5 gF ki hK=> ?_
 ·unfold jD dt;(try simp only[seval,TS,Um,T5,TD]);exact fW (by simp only[seval];simp[bB,Wk.refl]) rfl
 obtain⟨Lh,lO⟩:=hK;have cD:=l_.step gF (ki.sub lO);have CX:V5.role= .fork c Wg (oK x deep (p+1)):=gF.role.trans qV.role;have vn:E5.fr c=some sr:=by rw[gF.le.fr];exact qV.Ek
 have Bn:E5.fr Wg=some (wgBlock SD (((p+1:Nat):Int)* 4294967296) 0):=by rw[gF.le.fr];exact qV.Bm
 obtain⟨c1,c2,c3⟩:=cD.ah.bw.fr c _ vn;obtain⟨v1,v2,v3⟩:=cD.ah.bw.fr Wg _ Bn;have e22:a5.eval (.tmp 22)= .func (.func 100) #[] #[pW Wg 0,fv]:=by
  obtain⟨fa,ca,q1,q2,q3⟩:=OD (ki.tok 22 _ Lh).2;rw[D_ q2]at q1;refine q1.trans ?_;have fA:ca.size=2:=q3.1;have k0:=tO (q3.2 0 _ rfl);have k1:=Bb (q3.2 1 _ rfl);rw[<- cD.ef]at k1;congr 1;refine Array.ext fA λj h1 h2=> ?_;have hj:j=0\/j=1:=by omega
  rw[SH,SJ (by omega)]at k0 k1;rcases hj with rfl|rfl
  ·exact k0
  ·exact k1
 have hfc:V5.ab (E5.blk (Hs.length+3)) 0=some (.chan (some c)):=by
  have bz:=cD.df;rw[cD.ef]at bz;generalize hp:(Value.pointer (some ⟨E5.blk (Hs.length+3),0,none⟩))=pv at bz;cases bz with
  |rp b o f h1 h2=>
   cases hp;have:=h1 0 (by simp);rw[cD.ah.bw.I]at this;rw[Uv]at this;rw[this,tO (h2 0 _ rfl)]
 refine Na rfl rfl ?_;refine⟨rfl, .tmp 22,100,#[],_,rfl,e22,cD.deaf, .inr ⟨c,Wg,_,CX,cD.ne,c1, ?_,c2,v2, ?_, ?_⟩⟩
 ·rw[v1,MK]
 ·have:=afF Wg (E5.blk (Hs.length+3)) c (Im:=V5.ab) hfc;rw[cD.ef];simpa[pW]using this
 let V6:View:={V5 with own:=λb=>if b=c\/b=Wg then none else V5.own b,role:= .recv c Wg (oK x deep (p+1))};let f6:Nat->Option Obj:=λb=>if b=c\/b=Wg then none else E5.fr b;have H7:Conc (E5.frame f6) V6 (Hs++(dt x deep c++[])):=by
  refine cD.ah.bw.xV (V':=V6) _ rfl (λb z k w hk kF hz=> ?_) (λg hg=>by cases hg) (λg hg=>by cases hg) (λhm=>by rw[cD.main]at hm;cases hm) (λb y hb=> ?_)
  ·have n1:b≠c:=cD.ah.bw.CN vn hk kF;have n2:b≠Wg:=cD.ah.bw.CN Bn hk kF;show (if b=c\/b=Wg then none else V5.own b)=some z;rw[if_neg (λe=>e.elim n1 n2)];exact hz
  ·by_cases yX:b=c\/b=Wg
   ·simp only[f6,if_pos yX]at hb;cases hb
   ·simp only[f6,if_neg yX]at hb;obtain⟨q1,q2,q3⟩:=cD.ah.bw.fr b y hb;refine⟨?_,q2,q3⟩;show (if b=c\/b=Wg then none else V5.own b)=some y;rw[if_neg yX];exact q1
 have oq:jA x deep Hs E c Wg rv dv fv [(5, .op (Hs.length+3) 0),(4, .op (Hs.length+2) 0)] [] (E5.frame f6) V6 (a5.put none undef):=by
  refine⟨⟨H7,cD.ah.tok.frame _,cD.ah.size⟩,cD.lo.trans (Env.FY E5 f6),cD.main,cD.defers,cD.deaf,cD.er,cD.ed,cD.ef,cD.dr.frame f6,cD.dd.frame f6,cD.df.frame f6,λb y e=> ?_,cD.ne⟩;obtain⟨q1,q2,q3⟩:=cD.fr b y e;refine⟨?_,q2,q3⟩;show (if b=c\/b=Wg then none else E5.fr b)=some y;rw[if_neg (λe=>e.elim q2 q3)];exact q1
 show WP true SD none (.seq (cf (cs (cs mo))) (cs (cs (cs mo)))) Q (a5.put none undef) V6;refine wp_seq ?_;refine oq.to (jr Hs) (io Hs Kn.zero) ?_ λE7 V7 a7 oy BM=> ?_
 ·show aY true SD none 35 (cf (cs (cs mo))) _ _;unfold jr dt io;refine ak ?_;exact fW (by simp only[seval];simp[bB,Wk.refl]) rfl
 refine wp_block (id:=2) (c:= .loop Sk) ?_;have cw:DE x deep (p+1) Hs E c Wg rv dv fv [] Kn.zero (jr Hs) [] E7 V7 a7:=⟨by rw[SI];exact BM,by rw[oy.role,apB], .nil,CB,V_,λj hj=>by cases hj⟩;refine wp_loop (λm a' V'=>∃E' js D,m=p+1-js.length/\DE x deep (p+1) Hs E c Wg rv dv fv js D (jr Hs) [] E' V' a') _ ⟨E7,[],Kn.zero,rfl,cw⟩ λm a8 V8 hI=> ?_;obtain⟨E8,js,D,rfl,h8⟩:=hI;have hlen:∀js:List Nat,js.Nodup->(∀j∈js,j<p+1)->js.length<=p+1:=λjs hn hl=>by
  have:=hn.length_le_of_subset (l₂:=SX (p+1)) λj hj=>by simpa using hl j hj
  simpa using this
 refine aln hx hA (by omega) yP cm h8 (λj D' E9 V9 a9 hj h9=> ?_) λE9 V9 a9 G aiU Lw Ij H8 Mu w6 fO=> ?_
 ·have h1:=hlen _ h9.nodup h9.lt;simp only[SQ,TQ]at h1;exact⟨p+1-(js++[j]).length,by simp;omega,E9,js++[j],D',rfl,h9⟩
 ·have Kt:js.Perm (SX (p+1)):=by
   refine(List.perm_ext_iff_of_nodup h8.nodup Xf).2 λk=> ?_;rw[TH];exact⟨h8.lt k,fO k⟩
  exact hQ js D E9 V9 a9 G Kt h8.Sb h8.kn aiU Lw Ij H8 Mu w6
end
theorem ahB{x:ai}{deep:Int}{p:Nat}{H:List aa}{k kp:AV->List aa->Prop}(hx:x.Ok)(hA:uV x)(hp:x.am=p)(hm:H[0]?=some .main)(hk:∀js D L,js.Perm (SX (p+1))->m9 x deep js D->bP D->L.length=5->k (.agg (D.l (H.length+5))) (H++(L++[setH D.aH]))):bi true SD 77 H [x.av,iv deep] k kp:=by
 intro E V vs hc hd;have hEm:E.main=true:=hc.obj 0 _ hm;obtain⟨jm,ua⟩:=hc.top hEm;have hn:E.n=H.length:=hc.n;refine N8 (by simp) F.f77 rfl ?_;have sD:At (E.fC false) V ⟨[(0,x.av),(1,iv deep)],H.map strip⟩ {tmps:=vs++TA (W8.ntmps-vs.size) undef,defers:=[]} 35:=by
  have:=A5 (nt:=35) hc hd (by simp);exact⟨hc.afS,this.tok.fC false,this.size⟩
 have hlen:(H.map strip).length=H.length:=Tj _;have Kk:bL (H.map strip):=sD.bw.ay
 suffices pf:∀Hs,H.map strip=Hs->WP true SD none uy (Ends SD W8 (gW E V k kp)) {tmps:=vs++TA (W8.ntmps-vs.size) undef,defers:=[]} V from pf _ rfl
 intro Hs cm;rw[cm]at sD hlen Kk;have Qd:({tmps:=vs++TA (W8.ntmps-vs.size) undef,defers:=[]}:Act).defers=[]:=rfl;generalize({tmps:=vs++TA (W8.ntmps-vs.size) undef,defers:=[]}:Act)=a0 at sD Qd;have bQ:x.l=[iv x.first,iv x.hours,iv x.am,ej x.seen,bk x.pieces,bk x.aB]:=rfl;refine wp_seq (x:=cf uy) (y:=cs uy) ?_;refine yw ⟨[(4, .op (Hs.length+2) 0),(3, .op (Hs.length+1) 0),(2, .op Hs.length 0)],Hs++[.cells x.l 76, .cells [iv deep] 3, .cells iJ 88]⟩ sD ?_ λE2 V2 a2 cx tX=> ?_
 ·show aY true SD none 35 (cf uy) _ _;simp only[ai.av];refine ak ?_;exact fW (by simp only[seval];simp[bB,Wk.refl]) rfl
 obtain⟨ti,vU⟩:∃i,SD.info? 88=some i:=Option.isSome_iff_exists.1 (by kernel_rfl);refine wp_seq (x:=cf (cs uy)) (y:=cs (cs uy)) (acV rfl rfl (am7 rfl (d:= .both) (el:=88) (by kernel_rfl) vU λc vD=> ?_));let f3:Nat->Option Obj:=λb=>if b=c then some sr else E2.fr b;have pU:At (E2.frame f3) (V2.upd c sr) ⟨[(11, .val (.chan (some c))),(4, .op (Hs.length+2) 0),(3, .op (Hs.length+1) 0),(2, .op Hs.length 0)],Hs++[.cells x.l 76, .cells [iv deep] 3, .cells iJ 88]⟩ (a2.put (some 11) (.chan (some c))) 35:=
  ⟨tX.bw.ail vD sr,(tX.tok.frame _).put (by rw[tX.size];omega) (.val _),(eD a2 (some 11) _).trans tX.size⟩
 refine Nb ⟨[(5, .op (Hs.length+3) 0),(4, .op (Hs.length+2) 0),(3, .op (Hs.length+1) 0),(2, .op Hs.length 0)],Hs++[.cells x.l 76, .cells [iv deep] 3, .cells iJ 88, .cells [.val (.chan (some c))] 139]⟩ rfl (by kernel_rfl) pU ?_ λE4 V4 a4 ri q_=> ?_
 ·(try simp only[seval,anm,arz,alx]);exact fW (by simp only[seval];simp[bB,Wk.refl]) rfl
 refine wp_seq (x:=cf (cs (cs uy))) (y:=mo) ?_;refine yw ⟨[(6, .op (Hs.length+4) 0),(5, .op (Hs.length+3) 0),(4, .op (Hs.length+2) 0),(3, .op (Hs.length+1) 0),(2, .op Hs.length 0)],Hs++[.cells x.l 76, .cells [iv deep] 3, .cells iJ 88, .cells [.val (.chan (some c))] 139, .cells [.val (.int .u64 0), .val (.int .u32 0)] 147]⟩ q_ ?_ λE5 V5 a5 gF ki=> ?_
 ·show aY true SD none 35 (cf (cs (cs uy))) _ _;refine ak ?_;exact fW (by simp only[seval];simp[bB,Wk.refl]) rfl
 obtain⟨wcs,Co,hwo,uo,BP⟩:=ki.bw.aim (id:=Hs.length+4) (aS _ _ 4);have akO:=OH (l:=[.int .u64 0, .int .u32 0]) Co;subst akO;rw[de]at BP;simp only[Un,TM]at BP;have OX:=ki.aq9 (t:=6) (id:=Hs.length+4) (off:=0) rfl;have PD:E5.fr=f3:=gF.le.fr.trans ri.le.fr;have vn:E5.fr c=some sr:=by rw[PD];simp[f3]
 have aE:c≠E5.blk (Hs.length+4):=λe=>ki.bw.CN vn (aS Hs _ 4) rfl e.symm;have PE:∀b y,E.fr b=some y->E5.fr b=some y/\b≠c/\b≠E5.blk (Hs.length+4):=λb y hb=>by
  have h2:E2.fr b=some y:=by rw[cx.le.fr];exact hb
  have yX:b≠c:=λe=>by subst e;have:=(tX.bw.fr b y h2).1;rw[vD.1]at this;cases this
  have h5:E5.fr b=some y:=by rw[PD];simp[f3,yX,h2]
  exact⟨h5,yX,λe=>ki.bw.CN h5 (aS Hs _ 4) rfl e.symm⟩
 generalize yR:E5.blk (Hs.length+4)=Wg at hwo uo BP OX aE PE;let f6:Nat->Option Obj:=λb'=>if b'=Wg then some (wgBlock SD 0 0)else E5.fr b';have Qp:Conc (E5.frame f6) V5 (Hs++[.cells x.l 76, .cells [iv deep] 3, .cells iJ 88, .cells [.val (.chan (some c))] 139, .gone]):=by
  have:(λb'=>if b'=Wg then some (Obj.cells #[.int .u64 0, .int .u32 0] 147 (0,0))else E5.fr b')=f6:=by
   funext b';simp only[f6,wgBlock,wgT]
  rw[<- this];exact BP
 have BG:At (E5.frame f6) V5 ⟨[(6, .val (pW Wg 0)),(5, .op (Hs.length+3) 0),(4, .op (Hs.length+2) 0),(3, .op (Hs.length+1) 0),(2, .op Hs.length 0)],Hs++[.cells x.l 76, .cells [iv deep] 3, .cells iJ 88, .cells [.val (.chan (some c))] 139, .gone]⟩ a5 35:=by
  refine⟨Qp,λt av e=> ?_,ki.size⟩;by_cases ht:t=6
  ·subst ht;cases e;refine⟨by rw[ki.size];omega, ?_⟩;have:a5.tmps.getD 6 undef=pW Wg 0:=OX;rw[this];exact .val _
  ·refine(ki.tok.frame f6) t av ?_;simp only[look]at e⊢;rw[if_neg (Ne.symm ht)]at e⊢;exact e
 clear BP Qp;have lo6:E.Lo (E5.frame f6):=((((E.al4 false).trans cx.le.lo).trans (Env.FY E2 f3)).trans (ri.le.lo.trans gF.le.lo)).trans (Env.FY E5 f6);have LB:(E5.frame f6).main=false:=gF.le.main.trans (ri.le.main.trans cx.le.main);have afP:a5.defers=[]:=gF.defers.trans (ri.defers.trans ((put_defers a2 _ _).trans (cx.defers.trans Qd)));have ro6:V5.role= .plain:=gF.role.trans (ri.role.trans (cx.role.trans jm));have de6:V5.deaf=0:=gF.deaf.trans (ri.deaf.trans (cx.deaf.trans ua));have I1:(E5.frame f6).fr c=some sr:=by show f6 c=_;simp only[f6,if_neg aE];exact vn
 have I2:(E5.frame f6).fr Wg=some (wgBlock SD 0 0):=by show f6 Wg=_;simp[f6]
 have PF:∀b y,E.fr b=some y->(E5.frame f6).fr b=some y/\b≠c/\b≠Wg:=λb y hb=>by
  obtain⟨q1,q2,q3⟩:=PE b y hb;refine⟨?_,q2,q3⟩;show f6 b=_;simp only[f6,if_neg q3];exact q1
 generalize E5.frame f6=E6 at BG lo6 LB I1 I2 PF;obtain⟨V7,g7,o7,r7,d7,v4,D6,Oz⟩:=BG.bw.Gt (id:=Hs.length) (aS _ _ 0) 6 (by simp[bQ]);rw[show Hs.length=Hs.length+0 from rfl,de]at D6;simp only[TM]at D6;have acv:=BG.tok.mono v4;generalize hE7:({E6 with I:=V7.ab}:Env)=E7 at v4 D6 Oz acv;obtain⟨V8,g8,o8,r8,d8,uz,D7,OA⟩:=D6.Gt (id:=Hs.length+1) (aS _ _ 1) 1 (by simp);rw[de]at D7;simp only[Un,TM]at D7;have acw:=acv.mono uz;generalize hE8:({E7 with I:=V8.ab}:Env)=E8 at uz D7 OA acw;obtain⟨V9,g9,o9,r9,d9,uA,wU,Ia⟩:=D7.Gt (id:=Hs.length+3) (aS _ _ 3) 1 (by simp);rw[de]at wU;simp only[Un,TM]at wU;have acx:=acw.mono uA;generalize hE9:({E8 with I:=V9.ab}:Env)=E9 at uA wU Ia acx;refine WP.ghost g7 (WP.ghost g8 (WP.ghost g9 ?_));have Lw:E.Lo E9:=lo6.trans ((v4.trans uz).trans uA).lo;have Mu:V9.role= .plain:=r9.trans (r8.trans (r7.trans ro6));have H8:V9.deaf=0:=d9.trans (d8.trans (d7.trans de6));have w6:E9.fr=E6.fr:=uA.fr.trans (uz.fr.trans v4.fr);have n6:E6.n=Hs.length+5:=by rw[BG.bw.n];simp
 have b7:∀k,k<Hs.length+5->E9.blk k=E6.blk k/\E9.blk k=E7.blk k/\E9.blk k=E8.blk k:=λk hk=>by
  have n7:=v4.n;have n8:=uz.n;have q7:=v4.blk k (by omega);have q8:=uz.blk k (by omega);have q9:=uA.blk k (by omega);exact⟨by rw[q9,q8,q7],by rw[q9,q8],q9⟩
 obtain⟨c1,c2,c3⟩:=wU.fr c sr (by rw[w6];exact I1);obtain⟨v1,v2,v3⟩:=wU.fr Wg _ (by rw[w6];exact I2);refine arm (c:=c) (Wg:=Wg) rfl Mu aE c1 (by rw[v1];simp) v2 ?_;let Hz:View:={V9 with role:= .fork c Wg []};have afG:Conc (E9.frame E9.fr) Hz (Hs++(dt x deep c++[])):=by
  refine wU.xV (V':=Hz) _ rfl (λ_ _ _ _ _ _ h=>h) (λg hg=> ?_) (λg hg=> ?_) (λhm=>by rw[uA.main,uz.main,v4.main,LB]at hm;cases hm) wU.fr
  ·cases hg;exact⟨by show V9.own Wg≠none;rw[v1];simp,v2,v3⟩
  ·cases hg;exact⟨by show V9.own c≠none;rw[c1];simp,c2,c3⟩
 have dr9:ap E9 (.rp x.l) (.pointer (some ⟨E9.blk Hs.length,0,none⟩)):=by
  have h7:=(Oz.mono uz).mono uA;rw[<- (b7 Hs.length (by omega)).1]at h7;rwa [SW (by simp[bQ])]at h7
 have dd9:ap E9 (.rp [iv deep]) (.pointer (some ⟨E9.blk (Hs.length+1),0,none⟩)):=by
  have h8:=OA.mono uA;rw[<- (b7 (Hs.length+1) (by omega)).2.1]at h8;exact h8
 have Ij:ap E9 (.rp [.val (.chan (some c))]) (.pointer (some ⟨E9.blk (Hs.length+3),0,none⟩)):=by
  rw[<- (b7 (Hs.length+3) (by omega)).2.2]at Ia;exact Ia
 have Kg:jA x deep Hs E c Wg (.pointer (some ⟨E9.blk Hs.length,0,none⟩)) (.pointer (some ⟨E9.blk (Hs.length+1),0,none⟩)) (.pointer (some ⟨E9.blk (Hs.length+3),0,none⟩)) [(6, .val (pW Wg 0)),(5, .op (Hs.length+3) 0),(4, .op (Hs.length+2) 0),(3, .op (Hs.length+1) 0),(2, .op Hs.length 0)] [] E9 Hz a5:=
  ⟨⟨afG,acx,BG.size⟩,Lw,uA.main.trans (uz.main.trans (v4.main.trans LB)),afP,H8,rfl,rfl,rfl,dr9,dd9,Ij,λb y hb=>by rw[w6];exact PF b y hb,aE⟩
 refine alo hx hA hp (by omega) Kk ⟨Kg,rfl,by rw[w6];exact I1,by rw[w6];exact I2⟩ λjs D E11 V11 a11 G Kt dL bA Qf al3 afO afL aoG aik=> ?_;subst cm;have bU:=Kn.len bA (H.length+5);let L5:List aa:=[.part 6 x.l 76, .part 1 [iv deep] 3, .cells (D.l (H.length+5)) 88, .part 1 [.val (.chan (some c))] 139, .gone];rw[hlen]at Qf;refine⟨afO,aoE (P:=SD) (rs:=[.cell 4 88]) (H:=H) (L:=L5++[setH D.aH]) (G:=G) (T:=[(4, .op (H.length+2) 0)]) (av:= .agg (D.l (H.length+5))) rfl Qf al3 hc (aoG.trans jm.symm) (afL.trans ua.symm) aik ?_ rfl ?_ ?_ (hk js D L5 Kt dL bA rfl)⟩
 ·have hg:(H.map strip++(L5++[setH D.aH]++G))[H.length+2]?=some (.cells (D.l (H.length+5)) 88):=by
   have:=aS (H.map strip) (L5++[setH D.aH]++G) 2;rw[hlen]at this;exact this
  have aF:T_ 28 (D.l (H.length+5))=D.l (H.length+5):=SW (by omega);generalize hLG:H.map strip++(L5++[setH D.aH]++G)=LG at hg;try simp only[seval,hZ,uG,hg,bU,aF,aa.cellsOf]
 ·have hl:H.length=(H.map strip).length:=hlen.symm;intro y hy;have ajJ:(H.map strip++(L5++[setH D.aH])).length=H.length+6:=by simp[L5]
  rw[ajJ];rcases SN.1 hy with h|h
  ·exact(Kk y h).mono (by omega)
  ·simp only[L5,SK,SN,SU,or_false]at h;rcases h with(rfl|rfl|rfl|rfl|rfl)|rfl
   ·exactλa ha=>F2 x _ a ha
   ·intro a ha;simp at ha;subst ha;exact .val _
   ·exact xH (by omega)
   ·intro a ha;simp at ha;subst ha;exact .val _
   ·trivial
   ·trivial
 ·refine .agg λa ha=> ?_;exact xH (by simp[L5]) a ha
namespace Tk
theorem QM{x:ai}{bh:Nat}(h0:0<=x.first)(h90:x.first<=90)(hp:0<=x.am/\x.am<=3):∀(d:Nat)(pre:List Int),pre.length+d<=4->pre.head?=some x.first->(∀a∈pre,x.first<=a/\a<=x.first+3* (pre.length-1:Nat))->∀h∈mP x bh d pre,h.length=4/\h.head?=some x.first/\∀a∈h,x.first<=a/\a<=x.first+9
 |0,pre,hl,hh,ha,h,hm=>by
  unfold mP at hm;split at hm
  ·rw[S5]at hm;subst hm;have aE:pre≠[]:=λe=>(by rw[e]at hh;cases hh);have cU:0<pre.length:=Vp.2 aE;have uf:pre.getLastD 0∈pre:=by
    rw[UT,W9 aE];exact Yz aE
   refine⟨by simp[cM];omega,by rw[cM,Wb,hh];rfl,λa hm=> ?_⟩;have J':a∈pre:=by
    rcases SN.1 hm with h|h
    ·exact h
    ·rw[(W6.1 h).2];exact uf
   have:=ha a J';omega
  ·cases hm
 |d+1,pre,hl,hh,ha,h,hm=>by
  unfold mP at hm;split at hm
  ·obtain⟨n,hn,hm⟩:=S4.1 hm;have kI:n<x.am.toNat+1:=(by simpa using hn);split at hm
   ·cases hm
   ·have aE:pre≠[]:=λe=>(by rw[e]at hh;cases hh);have cU:0<pre.length:=Vp.2 aE;have uf:pre.getLastD 0∈pre:=by
     rw[UT,W9 aE];exact Yz aE
    refine QM h0 h90 hp d _ (by simp;omega) (by rw[Wb,hh];rfl) (λa J'=> ?_) h hm;rw[SQ,TQ];rcases SN.1 J' with h'|h'
    ·have:=ha a h';omega
    ·rw[S5]at h';subst h';have:=ha _ uf;omega
  ·cases hm
theorem QI{x:ai}{bh:Nat}(hx:x.Ok){h:List Int}(hm:h∈kH x bh):jz h:=by
 have hf:=hx.first;have hh:=hx.hours;have hp:=hx.am;obtain⟨h1,h2,h3⟩:=QM (bh:=bh) hf.1 hf.2 ⟨by omega,hp.2⟩ x.hours.toNat [x.first] (by simp;omega) rfl (λa ha=>by rw[S5]at ha;subst ha;simp) h hm;refine⟨h1,λa ha=>by have:=h3 a ha;omega,λa ha=>by have:=h3 a ha;omega, ?_⟩
 match h,h1,h2,h3 with
 |[a,b,c,d],_,h2,h3=>
  have ha:a=x.first:=by simpa using h2
  have:=h3 d (by simp);simp;omega
theorem aaM:∀{qs:List Nat}{u:Nat}{t ns:List Nat},ns∈kP qs u t->∃l,ns=t++l/\l.length=qs.length/\∀(i n q:Nat),l[i]?=some n->qs[i]?=some q->n<9/\q.testBit n=true
 |[],u,t,ns,h=>by
  simp only[kP,S5]at h;exact⟨[],by simp[h],rfl,λi n q h1=>by cases h1⟩
 |q::qs,u,t,ns,h=>by
  simp only[kP,S4]at h;obtain⟨n,hn,h⟩:=h;split at h
  ·cases h
  ·rename_i hc;obtain⟨l,h1,h2,h3⟩:=aaM h;refine⟨n::l,by rw[h1];simp,by simp[h2],λi m q' h4 h5=> ?_⟩
   match i with
   |0=>
    cases h4;cases h5;refine⟨by simpa using hn, ?_⟩;simp at hc;exact hc.2
   |i+1=>exact h3 i m q' h4 h5
theorem aaW{k:Nat}{ns:List Nat}:∀{qs:List Nat}{u:Nat}{t os:List Nat},os∈mu k ns qs u t->∃l,os=t++l/\l.length=qs.length/\∀n∈l,n<k
 |[],u,t,os,h=>by
  simp only[mu,S5]at h;exact⟨[],by simp[h],rfl,λn h1=>by cases h1⟩
 |q::qs,u,t,os,h=>by
  simp only[mu,S4]at h;obtain⟨n,hn,h⟩:=h;split at h
  ·cases h
  ·obtain⟨l,h1,h2,h3⟩:=aaW h;refine⟨n::l,by rw[h1];simp,by simp[h2],λm hm=> ?_⟩;rcases SK.1 hm with rfl|hm
   ·simpa using hn
   ·exact h3 m hm
theorem MU:∀{h:List Int}{i:Nat}{n a:Int},h.head?=some a->a<=n->n<h.getLastD 0->0<=fJ i h n
 |[],i,n,a,h1,_,_=>by cases h1
 |[b],i,n,a,h1,h2,h3=>by
  simp at h1 h3;omega
 |b::c::l,i,n,a,h1,h2,h3=>by
  have:b=a:=by simpa using h1
  subst this;unfold fJ;split
  ·omega
  ·rename_i hc;exact MU (a:=c) rfl (by omega) (by simpa[UT]using h3)
theorem aqP{x:ai}{h:List Int}{ns os:List Nat}(hx:x.Ok)(hh:jz h)(hn:ns∈gp x h)(ho:os∈iu x h ns):iL x (dB h ns os):=by
 obtain⟨l,e1,e2,e3⟩:=aaM hn;simp only[Up]at e1;subst e1;obtain⟨m,g1,g2,g3⟩:=aaW ho;simp only[Up]at g1;subst g1;rw[Tj]at e2 g2;have h4:=hh.len;have Fg:=hx.dI;have pq:=hx.fD;have Cl:(dB h ns os).take 4=h:=by
  unfold dB;rw[SC,Tq (by omega),SW (by omega)]
 have dQ:(lq 4 ns).length=4:=zZ (by omega);have hg:∀p,p<ns.length->(dB h ns os)[4+p]?=(ns[p]?).map λn:Nat=>(n:Int):=λp hp=>by
  unfold dB;rw[SC,Tg (by omega),SY (by omega),h4,Ve];unfold lq;rw[SY (by simpa using hp),Ti]
 refine⟨by simp[dB,h4,dQ,zZ (k:=3) (l:=os) (by omega)],by rw[Cl];exact hh,λp hp=> ?_,λs hs=> ?_⟩
 ·obtain⟨n,B_⟩:=cG (xs:=ns) (i:=p) (by omega);obtain⟨y,hy⟩:=cG hp;obtain⟨q1,q2⟩:=e3 p n (bZ h y) B_ (by rw[Ti,hy];rfl);refine⟨n,by rw[hg p (by omega),B_];rfl,q1, ?_⟩;rw[Cl];unfold bZ at q2;rw[A6]at q2;simp only[Td,lD,decide_eq_true_eq]at q2;obtain⟨a,b,c,d,rfl,_⟩:=hh.out;have e0:(dB [a,b,c,d] ns os).getD 0 0=a:=rfl;rw[e0];have:=q2.2.1.1;simp at this;exact MU (a:=a) rfl (by omega) (by simp;omega)
 ·obtain⟨o,Ko⟩:=cG (xs:=os) (i:=s) (by omega);refine⟨o, ?_,by have:=g3 o (S_ Ko);omega⟩;unfold dB;rw[Tg (by simp[h4,dQ]),show (h++lq 4 ns).length=8 by simp[h4,dQ],Ve];unfold lq;rw[SY (by have:=eU Ko;simpa using this),Ti,Ko];rfl
end Tk
theorem Am{x:ai}(hx:x.Ok):uV x:=λbh _ h hm=>by
 have hh:=QI hx hm;refine⟨hh,λns ji a ha=> ?_⟩;obtain⟨os,h1,rfl⟩:=Th.1 ha;exact aqP hx hh ji h1
open Go.Conc
section
variable {lv:Bool}{P:Program}{s:AS}{ms:List Nat}{bs:List Deferred}{nt:Nat}
theorem ah7{f:FuncId}{fn:Func}{c0 c1 c2:Code}{rs:List ResultVar}{H:List aa}{args:List AV}{k kp:AV->List aa->Prop}(hf:P.funcs[f]?=some fn)(hb:fn.body=some (.seq c0 (.seq c1 c2)))(hr:fn.results=rs.toArray)(hn:fn.ntmps=nt)(cO:args.length<=nt)
  (h:bL H->(∀a∈args,Lt H.length a)->aY lv P none nt c0 ⟨bp 0 args,H⟩ λe s0=>e= .normal/\As lv P nt c1 s0 [] (λe s' nk=>e= .normal/\∃c,nk=[c]/\∀bs,kA lv P nt bs c2 s' [] (yk lv P rs H.length c k kp))):bi lv P f H args k kp:=by
 intro E V vs hc hd;have hlt:∀a∈args,Lt H.length a:=λa ha=>by
  obtain⟨i,hi⟩:=pw ha;rw[<- hc.n];exact(hd.2 i a hi).lt
 have ah:=A5 (nt:=nt) hc hd cO;refine afq (by simp) hf hb ?_;rw[hn];refine wp_seq (h hc.ay hlt E V _ _ ah λae e E0 V0 a0 s0 zi sD he0 hΦ0=> ?_);obtain⟨rfl,xF⟩:=hΦ0;cases e<;>first
  |exact he0.elim
  |skip
 have ajj:a0.defers=[]:=zi.defers;refine wp_seq (xF E0 V0 a0 _ sD (by rw[ajj];trivial) λae e E1 V1 a1 s1 ds1 ajG vv cZ BU hΦ1=> ?_);obtain⟨rfl,c,rfl,hw⟩:=hΦ1;have gZ:=zi.d.trans ajG;cases e<;>first
  |exact BU.elim
  |skip
 obtain⟨d,jV,bm⟩:∃d,a1.defers=[d]/\ye E1 c d:=by
  match jV:a1.defers,cZ with
  |[d],cZ=>exact⟨d,rfl,cZ.1⟩
  |[],cZ=>exact cZ.elim
  |_::_::_,cZ=>exact cZ.2.elim
 refine hw [d] E1 V1 a1 _ vv ⟨by simp[jV],by simp⟩ λae e E' V' a' s' cH hk aR gh he hΦ=> ?_;have hle:E.Le E':=gZ.le.trans hk.le;have fin:∀(md:FrameMode)(m:Option AV)(H':List aa),(md matches .run)=false->iN cH s'.H=some H'->Nq E' m md->qB lv P c H' m (λH'=>an (hZ P ⟨s'.T,H'⟩ rs) λl=>cy H.length H' (iY l) k) (λH'=>∀pv,m=some pv->cy H.length H' pv kp)->tG lv P fn (gW E V k kp) a'.defers md a'.tmps V':=by
  intro md m H' p_ hg Q5 hD;refine acL p_ cH _ H' E' V' _ hg aR.bw gh λV2 r1 r2 cT=> ?_;have ajg:=bm.mono hk.le;refine⟨p_, .inr ⟨?_, ?_⟩⟩
  ·obtain⟨f,first,cS,fa,ca,vs,h1,rfl,h3,h4,h5⟩:=bm;exact⟨_,_,rfl⟩
  ·refine(hD E' V2 d md cT ajg Q5).mono (λnx aU hx=> ?_) λ_ _ h=>h;obtain⟨g,args,rfl,Bu⟩:=hx;refine⟨g,args,rfl,Bu.mono λnQ V3 hx=> ?_⟩;obtain⟨E3,H3,q1,q2,q3,q4,q5|q5⟩:=hx
   ·obtain⟨rfl,q5⟩:=q5;exact abm (s':=⟨s'.T,H3⟩) (a':=a') hr ⟨q4,aR.tok.mono q1,aR.size⟩ (hle.trans q1) hc.n (q2.trans (r1.trans (hk.role.trans gZ.role))) (q3.trans (r2.trans (hk.deaf.trans gZ.deaf))) q5
   ·obtain⟨rfl,uh,q5⟩:=q5;cases m with
    |none=>cases uh
    |some pv=>
     obtain⟨v,rfl,me⟩:=Q5;obtain⟨b,bR,tw,t1,t2,t3,t4⟩:=wW (q5 pv rfl) q4 (me.mono q1) (hle.trans q1) hc.n;exact⟨b,v,bR,tw,rfl,t1,q2.trans (r1.trans (hk.role.trans gZ.role)),q3.trans (r2.trans (hk.deaf.trans gZ.deaf)),t2,t3,t4⟩
 have ahY:yk lv P rs H.length c k kp .ret s' cH->tG lv P fn (gW E V k kp) a'.defers .returning a'.tmps V':=λhΦ=>by
  obtain⟨H',hg,hΦ⟩:=an.out hΦ;refine fin .returning none H' rfl hg rfl λE2 V2 d2 LD c1 c2 c3=> ?_;refine(hΦ E2 V2 d2 LD c1 c2 c3).mono (λnx aU hx=> ?_) λ_ _ h=>h;obtain⟨g,args,rfl,Bu⟩:=hx;refine⟨g,args,rfl,Bu.mono λnQ V3 hx=> ?_⟩;obtain⟨E3,H3,q1,q2,q3,q4,q5|q5⟩:=hx
  ·exact⟨E3,H3,q1,q2,q3,q4, .inl q5⟩
  ·exact q5.2.2.elim
 cases ae<;>cases e<;>first
  |exact he.elim
  |exact ahY hΦ
  |exact hΦ.elim
  |skip
 rename_i pv ch;obtain⟨v,fi,ajh⟩:∃v,ch=[{v,recovered:=false}]/\ap E' pv v:=he;subst fi;obtain⟨H',hg,hΦ⟩:=an.out hΦ;refine fin _ (some pv) H' rfl hg ⟨v,rfl,ajh⟩ λE2 V2 d2 LD c1 c2 c3=> ?_;refine(hΦ E2 V2 d2 LD c1 c2 c3).mono (λnx aU hx=> ?_) λ_ _ h=>h;obtain⟨g,args,rfl,Bu⟩:=hx;refine⟨g,args,rfl,Bu.mono λnQ V3 hx=> ?_⟩;obtain⟨E3,H3,q1,q2,q3,q4,q5|q5⟩:=hx
 ·exact⟨E3,H3,q1,q2,q3,q4, .inl q5⟩
 ·exact⟨E3,H3,q1,q2,q3,q4, .inr ⟨q5.1,q5.2.1,λpv' e=>by cases e;exact q5.2.2⟩⟩
end
open Go.Proofs Go.Gg.Tk
namespace Tk
def vc (x:ai):Bool:=(SX (x.am.toNat+1)).any λbh=>(kH x bh).any λh=> !(jv x 0 h).isEmpty
end Tk
def uD:AV:= .c_ 136 (.agg [])
section
variable {lv:Bool}{H:List aa}{kr kp:List aa->Prop}
theorem ahK{r:Nat}(h:∀L,kr (H++L)):qB lv SD (.fn (.func 95) [] [.op r 0],[]) H none kr kp:=by
 refine Ox (nt:=9) (by kernel_rfl) F.f95 rfl rfl rfl rfl rfl rfl rfl rfl (by kernel_rfl) (by simp) ?_;simp only[bp,SS,Up,UW];(try simp only[seval,F.K5]);refine eC (a:=[]) rfl ⟨rfl,by decide,by simp, ?_⟩;refine ak ?_;refine aC ?_;refine aeN ?_;exact .inl (h _)
theorem ahL{r:Nat}{a:AV}(hr:H[r]?=some (.cells [a] 4))(h:∀L,kr (H.set r (.cells [bv true] 4)++L)):qB lv SD (.fn (.func 95) [] [.op r 0],[]) H (some uD) kr kp:=by
 refine Ox (nt:=9) (by kernel_rfl) F.f95 rfl rfl rfl rfl rfl rfl rfl rfl (by kernel_rfl) (by simp) ?_;simp only[bp,SS,Up,S6,uD];(try simp only[seval,F.K5]);have um:=eU hr;have xz:∀L:List aa,(H++L)[r]?=some (.cells [a] 4):=λL=>ey hr;refine ak ?_;refine aC ?_;refine aj ?_;simp only[seval,xz,uK um];exact .inl (h _)
end
def qP (x:ai)(m:Lp)(h:List Int):dD Lp:=if(jv x 0 h).isEmpty then .go .ready else .bad .busy
theorem Oe{x:ai}:∀(l:List (List Int)),bF (qP x) l .ready=if l.any (λh=> !(jv x 0 h).isEmpty)=true then .bad .busy else .go .ready
 |[]=>by simp[bF]
 |h::l=>by
  have ih:=Oe (x:=x) l;by_cases he:(jv x 0 h).isEmpty=true
  ·have e1:qP x .ready h= .go .ready:=(by unfold qP;rw[if_pos he]);rw[bF,e1];dsimp only;rw[ih];simp only[X6,he,ZD,YG]
  ·have e1:qP x .ready h= .bad .busy:=(by unfold qP;rw[if_neg he]);rw[bF,e1];dsimp only;have e2:(jv x 0 h).isEmpty=false:=(by simpa using he);simp only[X6,e2,XQ,Zj,if_true]
theorem ae1(l:List (List Int)):bF (λ(_:Lp) (_:List Int)=>(.bad .busy:dD Lp)) l .ready=if l.isEmpty then .go .ready else .bad .busy:=by
 cases l<;>rfl
def A_ (x:ai)(i:Nat):List aa:=[.cells x.l 76, .cells [iv i] 3, .obj (.deferred (some [])), .gone]
def kD (x:ai)(H:List aa):Nat->List aa
 |0=>H++[.cells x.l 76, .cells [bv false] 4]
 |i+1=>kD x H i++A_ x i
def wS (H:List aa):Nat->List Nat
 |0=>[]
 |i+1=>(H.length+2+4* i+2)::wS H i
theorem HY(x:ai)(H:List aa):∀i,(kD x H i).length=H.length+2+4* i
 |0=>by simp[kD]
 |i+1=>by simp[kD,A_,HY x H i];omega
theorem Od(x:ai)(H:List aa):∀i,∃Y,kD x H i=H++[.cells x.l 76, .cells [bv false] 4]++Y
 |0=>⟨[],by simp[kD]⟩
 |i+1=>by
  obtain⟨Y,h⟩:=Od x H i;exact⟨Y++A_ x i,by rw[kD,h,SC]⟩
theorem HX(x:ai)(H:List aa):∀(i:Nat)(L:List aa),∃Y,iN (wS H i) (kD x H i++L)=some (H++[.cells x.l 76, .cells [bv false] 4]++Y)
 |0,L=>⟨L,by rw[wS,yN,kD]⟩
 |i+1,L=>by
  have hl:=HY x H i;have e:(kD x H (i+1)++L)=kD x H i++(A_ x i++L):=by rw[kD,SC]
  have hg:(kD x H i++(A_ x i++L))[H.length+2+4* i+2]?=some (.obj (.deferred (some []))):=by rw[<- hl,aS];rfl
  obtain⟨Y,hY⟩:=HX x H i ([.cells x.l 76, .cells [iv i] 3, .gone, .gone]++L);refine⟨Y, ?_⟩;rw[wS,e,yM hg,<- hl,de];exact hY
theorem Oc(x:ai)(H:List aa)(i:Nat)(L:List aa):(kD x H i++L)[H.length]?=some (.cells x.l 76)/\(kD x H i++L)[H.length+1]?=some (.cells [bv false] 4):=by
 obtain⟨Y,h⟩:=Od x H i;rw[h,SC,SC];exact⟨aS H _ 0,aS H _ 1⟩
section
variable {lv:Bool}
theorem aid{P:Program}(rs:List ResultVar)(n:Nat)(c:AV×List AV)(k kp:AV->List aa->Prop)(pv:AV)(s:AS)(ms:List Nat):yk lv P rs n c k kp (.panic pv) s ms=an (iN ms s.H) λH'=>qB lv P c H' (some pv) (λH'=>an (hZ P ⟨s.T,H'⟩ rs) λl=>cy n H' (iY l) k) (λH'=>cy n H' pv kp):=by rw[yk]
theorem aie{P:Program}(rs:List ResultVar)(n:Nat)(c:AV×List AV)(k kp:AV->List aa->Prop)(s:AS)(ms:List Nat):yk lv P rs n c k kp .ret s ms=an (iN ms s.H) λH'=>qB lv P c H' none (λH'=>an (hZ P ⟨s.T,H'⟩ rs) λl=>cy n H' (iY l) k) (λ_=>False):=by rw[yk]
theorem ahy{H:List aa}{k kp:AV->List aa->Prop}{x:ai}(hx:x.Ok)(hk:k (bv (vc x)) H):bi lv SD 71 H [x.av] k kp:=by
 refine ah7 (rs:=[.cell 2 4]) (nt:=24) F.f71 rfl rfl rfl (by simp) λhH hA=> ?_;simp only[bp,SS,ai.av];have I9:=Am hx;have hp:=hx.am;obtain⟨p,dq⟩:∃p:Nat,x.am=p:=⟨x.am.toNat,by omega⟩;have bQ:x.l=[iv x.first,iv x.hours,iv x.am,ej x.seen,bk x.pieces,bk x.aB]:=rfl;have aT:∀(L:List aa),(H++L)[H.length]?=L[0]?:=λL=>aS H L 0;have hw:SE.wrap (x.am+1)=((p+1:Nat):Int):=by rw[dq,bD _ (by omega)];rfl
 refine aj ?_;simp only[seval,F.Nw];refine NY (n:=1) rfl rfl rfl rfl rfl rfl (by kernel_rfl) ?_;(try simp only[seval,TS,Um,T5,TD]);refine⟨⟨_,_,_,rfl⟩,_,rfl,λbs=> ?_⟩;refine D1 ?_;refine sk ?_;refine aj ?_;simp only[seval,aT,bQ,hw];refine wO ?_;refine NZ (measure λi=>p+1-i).wf (λi:Nat=>⟨[(10,iv i),(9,iv ((p+1:Nat):Int)),(2, .op (H.length+1) 0),(1, .op H.length 0)],kD x H i⟩) (λi=>wS H i) (λi=>i<=p+1/\∀j,j<i->∀h∈kH x j,(jv x 0 h).isEmpty=true) 0 (fW (by simp only[seval];simp[bB,Wk.refl]) rfl) rfl ⟨by omega,λj hj=>by omega⟩ λi ay=> ?_;obtain⟨pY,gk⟩:=ay;have cP:=HY x H i;have oo:=λL=>(Oc x H i L).1;have vw:=λL=>(Oc x H i L).2;obtain⟨N,hN⟩:∃N,N=H.length+2+4* i:=⟨_,rfl⟩;rw[<- hN]at cP;have Qk:(kD x H i)[H.length]?=some (.cells x.l 76):=by have:=oo [];rwa [SI]at this
 refine sk ?_;refine ak ?_;refine sk ?_;refine aC ?_;refine⟨λh=> ?_,λh=> ?_⟩
 ·
  have pX:i<=3:=by omega
  refine aP ?_;refine D1 ?_;refine wO ?_;refine sk ?_;refine ak ?_;refine sk ?_;refine aj ?_;simp only[seval,Qk,bQ];refine aL ((IH (x:=x) (n:=i) ?_));rw[cP];(try simp only[seval]);refine wO ?_;refine HP (by rfl) λl fn T ag bo hT xd nz=> ?_;have nF:(kD x H i++[aa.cells x.l 76,aa.cells [iv i] 3]).length=N+2:=by rw[SQ,cP];rfl
  (try simp only[seval]);rw[cP];obtain⟨B,hB⟩:∃B,B=kD x H i:=⟨_,rfl⟩;rw[<- hB]at cP Qk oo vw⊢;have bg:∀(L:List aa)(j:Nat),(B++L)[N+j]?=L[j]?:=λL j=>by rw[<- cP,aS]
  have D4:∀(L:List aa)(j:Nat)(y:aa),(B++L).set (N+j) y=B++L.set j y:=λL j y=>by rw[<- cP,de]
  have Qr:∀(M:List aa)(lp:Lp),bL (B++([aa.cells x.l 76, .cells [iv i] 3, .obj (.deferred (some [])), .loop l .ready none fn T 24 #[16] ag bo (N+2)]++M))->bL (B++([aa.cells x.l 76, .cells [iv i] 3, .obj (.deferred (some [])), .loop l lp.st lp.pe fn T 24 #[16] ag bo (N+2)]++M)):=λM lp ik z hz=>by
   have hlen:(B++([aa.cells x.l 76, .cells [iv i] 3, .obj (.deferred (some [])), .loop l lp.st lp.pe fn T 24 #[16] ag bo (N+2)]++M)).length=(B++([aa.cells x.l 76, .cells [iv i] 3, .obj (.deferred (some [])), .loop l .ready none fn T 24 #[16] ag bo (N+2)]++M)).length:=(by simp);have hl:=ik (.loop l .ready none fn T 24 #[16] ag bo (N+2)) (by simp);rw[hlen];rcases SN.1 hz with h'|h'
   ·exact ik z (Tb _ h')
   ·rcases SN.1 h' with h'|h'
    ·simp only[SK,SU,or_false]at h';rcases h' with rfl|rfl|rfl|rfl
     ·exact ik _ (by simp)
     ·exact ik _ (by simp)
     ·exact ik _ (by simp)
     ·exact hl
    ·exact ik z (SZ _ (SZ _ h'))
  have hY:jP lv SD (.fn (.yield l) [] []) (qP x) (λlp:Lp=>B++[.cells x.l 76, .cells [iv i] 3, .obj (.deferred (some [])), .loop l lp.st lp.pe fn T 24 #[16] ag bo (N+2)]) (N+4) (λlp=>lp= .ready) (λh=>jz h/\∀ns∈gp x h,∀a∈(iu x h ns).map (dB h ns),iL x a) uD:=by
   refine⟨λlp h M k kp g_ ha dM=> ?_,λlp h CI g_ ha he=> ?_,λlp=>by simp[cP],λm lp CI hz z ft=> ?_,rfl,rfl,rfl⟩
   ·replace g_:lp= .ready:=g_;subst g_;obtain⟨ox,Cm⟩:=ha;have h4:=ox.len;have nv:(h.map iv).length=4:=(by rw[Tj,h4]);obtain⟨Lo,kZ⟩:∃Lo,Lo=aa.loop l .busy none fn T 24 #[16] ag bo (N+2):=⟨_,rfl⟩;obtain⟨P1,dw⟩:∃P1:List aa,P1=B++([.cells x.l 76, .cells [iv i] 3, .obj (.deferred (some [])),Lo]++M):=⟨_,rfl⟩;have eN:P1.length=N+4+M.length:=(by rw[dw];simp[cP];omega);have pg3:∀(L:List aa),(P1++L)[N+3]?=some Lo:=λL=>(by rw[dw,SC,bg];rfl);have px:∀(L:List aa),(P1++L)[H.length]?=some (.cells x.l 76):=λL=>(by rw[dw,SC];exact oo _);have pb:∀(L:List aa)(j:Nat),(P1++L)[N+4+M.length+j]?=L[j]?:=λL j=>(by rw[<- eN,aS]);have wb:∀(L:List aa),(P1++L)[N+4+M.length]?=L[0]?:=λL=>pb L 0;have pC:∀(L:List aa)(y:aa),(P1++L).set (N+4+M.length+4) y=P1++L.set 4 y:=λL y=>(by rw[<- eN,de]);have s3:∀(L:List aa) y,(P1++L).set (N+3) y=B++([.cells x.l 76, .cells [iv i] 3, .obj (.deferred (some [])),y]++M)++L:=λL y=>by
     rw[dw,SC,D4];simp
    subst hT xd nz;rw[SC];refine vb (id:=N+3) (by rw[bg];rfl) rfl (by kernel_rfl) λog I_=> ?_;simp only[rV];have vF:Ud 4 [iv 0,iv 0,iv 0,iv 0]=[]:=rfl;refine aj ?_;simp only[seval,h4,vF];unfold tE;refine⟨none,fn,_,24,#[16],_,_,_,by rw[bg];rfl, ?_⟩;dsimp only;rw[D4];simp only[Un,TM];rw[<- kZ];have w9:B.length+(M.length+1+1+1+1)=N+4+M.length:=(by rw[cP];omega);rw[w9];have xn:∀z:aa,(B++aa.cells x.l 76::aa.cells [AV.val (SG SE ↑i)] 3::aa.obj (ZU (some []))::Lo::(M++[z]))=P1++[z]:=λz=>(by rw[dw];simp[iv]);rw[xn];refine aj ?_;simp only[seval,px,bQ,wb,h4,nv];rw[SW (i:=4) (l:=h.map iv) (by rw[nv];exact SO _)];refine aL ((II (x:=x) (h:=h) (deep:=0) ?_));(try simp only[seval]);refine cN ?_;refine DY (N+3) (by rfl) (by show (P1++_)[N+3]?=_;rw[pg3,kZ]) λl2 eZ T2 gL gN oh xe xf=> ?_;simp only[seval];rw[eN];have xc:jP lv SD (.fn (.yield l2) [] []) (λ(_:Lp) (_:List Int)=>(.bad .busy:dD Lp)) (λlp:Lp=>P1++[.cells (h.map iv) 83, .cells x.l 76, .cells (h.map iv) 83, .cells [iv 0] 3, .loop l2 lp.st lp.pe eZ T2 24 #[20] gL gN (N+2)]) (N+4+M.length+5) (λlp=>lp= .ready) (λa=>a.length=11) uD:=by
     refine⟨λlp t M2 k2 xI g_ ht lf=> ?_,λlp t CI g_ ht he=>(by cases he),λlp=>by simp[eN],λq lp CI hz z ft=> ?_,rfl,rfl,rfl⟩
     ·replace g_:lp= .ready:=g_;subst g_;simp only[cX]at lf;have lW:∀(L:List aa),(P1++L)[N+4+M.length+4]?=L[4]?:=λL=>pb L 4;subst oh xe xf;rw[SC];refine vb (id:=N+4+M.length+4) (by rw[lW];rfl) rfl (by kernel_rfl) λqY Ja=> ?_;simp only[rV];refine aP ?_;unfold tE;refine⟨none,eZ,_,24,#[20],_,_,_,by rw[lW];rfl, ?_⟩;dsimp only;rw[pC];simp only[Un,TM];refine aj ?_;simp only[seval,F.K5];show cy _ (P1++_) _ xI;rw[SC]at lf;exact bY lf
     ·rcases SN.1 ft with h'|h'
      ·exact hz z (Tb _ h')
      ·have hl:=hz _ (SZ _ (S_ (i:=4) rfl));simp only[SK,SU,or_false]at h';rcases h' with rfl|rfl|rfl|rfl|rfl
       ·exact hz _ (SZ _ (by simp))
       ·exact hz _ (SZ _ (by simp))
       ·exact hz _ (SZ _ (by simp))
       ·exact hz _ (SZ _ (by simp))
       ·exact hl
    rw[eN]at oh;have Fc:∀n,Lt n uD:=λn=>(by simp[uD,aah,qp]);refine bT (IL (x:=x) (h:=h) (deep:=0) (ir:=N+4+M.length+1) (ih:=N+4+M.length+1+1) (id:=N+4+M.length+1+2) (σ:=Lp.ready) hx ox xc (λlp L=> ?_) (λlp L=> ?_) (λlp L=> ?_) Fc rfl (λa ha=>ha) (λns ji a ha=>(Cm ns ji a ha).len) ?_)
    ·rw[SC];exact pb _ 1
    ·rw[SC];exact pb _ 2
    ·rw[SC];exact pb _ 3
    rw[ae1];have lW:∀(L:List aa),(P1++L)[N+4+M.length+4]?=L[4]?:=λL=>pb L 4;by_cases sH:(jv x 0 h).isEmpty=true
    ·rw[if_pos sH];have e1:qP x .ready h= .go .ready:=(by unfold qP;rw[if_pos sH]);rw[e1]at dM;simp only[cX]at dM;simp only[gv,SI];refine⟨.ready,none,_,_,_,_,_,_,_,by rw[lW];rfl,by decide, ?_⟩;rw[pC,Gr];(try simp only[seval]);show oS _ _ _ _ _ _ _;refine⟨l, .busy,none,fn,_,24,#[16],_,_,N+2,by show (P1++_)[_]?=_;rw[pg3,kZ], ?_⟩;show cy (N+4+M.length) ((P1++_).set _ _) _ k;rw[s3];rw[SC]at dM;exact jT (G:=[.cells (h.map iv) 83, .cells x.l 76, .cells (h.map iv) 83, .cells [iv 0] 3, .gone]) (Wk.refl _) (by simp[iv];exact⟨rfl,rfl⟩) (by simp[cP];omega) (Qr M .ready og) (.val _) dM
    ·rw[if_neg sH];have e1:qP x .ready h= .bad .busy:=(by unfold qP;rw[if_neg sH]);rw[e1]at dM;simp only[cX]at dM;simp only[gv,SI];show cy (N+4+M.length) (P1++_) uD kp;rw[SC]at dM;refine jT (H':=B++([aa.cells x.l 76, .cells [iv i] 3, .obj (.deferred (some [])), .loop l Lp.busy.st Lp.busy.pe fn _ 24 #[16] _ _ (N+2)]++M)) (Wk.refl _) (by rw[dw,kZ];rfl) (by simp[cP];omega) (Qr M .busy og) (Fc _) dM
   ·replace g_:lp= .ready:=g_;subst g_;unfold qP at he;split at he
    ·cases he;rfl
    ·cases he
   ·rcases SN.1 ft with h'|h'
    ·exact hz z (Tb _ h')
    ·have hl:=hz _ (SZ _ (S_ (i:=3) rfl));simp only[SK,SU,or_false]at h';rcases h' with rfl|rfl|rfl|rfl
     ·exact hz _ (SZ _ (by simp))
     ·exact hz _ (SZ _ (by simp))
     ·exact hz _ (SZ _ (by simp))
     ·exact hl
  have Fc:∀n,Lt n uD:=λn=>by simp[uD,aah,qp]
  refine bT (IJ (x:=x) (bh:=i) (ir:=N) (it:=N+1) (σ:=Lp.ready) hx hY (λlp L=> ?_) (λlp L=> ?_) pX Fc rfl (λa ha=>I9 i pX a ha) ?_)
  ·rw[SC];exact bg _ 0
  ·rw[SC];exact bg _ 1
  rw[Oe];have bX:SE.wrap ((i:Int)+1)=((i+1:Nat):Int):=by rw[bD _ (by omega)];rfl
  by_cases EE:(kH x i).any (λh=> !(jv x 0 h).isEmpty)=true
  ·rw[if_pos EE];have Jw:vc x=true:=by
    unfold vc;rw[Uw];exact⟨i,by rw[TH];omega,EE⟩
   rw[Jw]at hk;simp only[gv,SI];(try simp only[seval,aid]);obtain⟨Y,vt⟩:=HX x H i [.cells x.l 76, .cells [iv i] 3, .gone, .loop l .busy none fn T 24 #[16] ag bo (N+2)];rw[<- hB]at vt;have hgo:iN ((N+2)::wS H i) (B++[.cells x.l 76, .cells [iv i] 3, .obj (.deferred (some [])), .loop l Lp.busy.st Lp.busy.pe fn T 24 #[16] ag bo (N+2)])=some (H++[.cells x.l 76, .cells [bv false] 4]++Y):=by
    rw[yM (by rw[bg];rfl),D4];exact vt
   refine eC hgo ?_;have dl:(H++[aa.cells x.l 76, .cells [bv false] 4]++Y)[H.length+1]?=some (.cells [bv false] 4):=(by rw[SC];exact aS H _ 1);refine ahL dl λL=> ?_;have cT:((H++[aa.cells x.l 76, .cells [bv false] 4]++Y).set (H.length+1) (.cells [bv true] 4)++L)[H.length+1]?=some (.cells [bv true] 4):=by
    rw[SC,de,SC];exact aS H _ 1
   (try simp only[seval,hZ,uG,cT,aa.cellsOf]);exact lB hH hk
  ·rw[if_neg EE];simp only[gv,SI];refine⟨.ready,none,_,_,_,_,_,_,_,by show (B++_)[N+3]?=_;rw[bg];rfl,by decide, ?_⟩;rw[show N+2+1=N+3 from rfl,D4,Gq];(try simp only[seval]);refine DZ ?_;refine aj ?_;simp only[seval,bX];refine⟨i+1, ?_,⟨by omega,λj hj g hm=> ?_⟩,fW (by push_cast;simp only[seval];simp[bB,Wk.refl]) (by rw[hB];rfl),by rw[wS,hN]⟩
   ·show p+1-(i+1)<p+1-i;omega
   ·by_cases cp:j<i
    ·exact gk j cp g hm
    ·have:j=i:=(by omega);subst this;apply To;intro aE;exact EE (Uw.2 ⟨g,hm,by simpa using aE⟩)
 ·
  have dK:i=p+1:=by omega
  subst dK;have Jw:vc x=false:=by
   unfold vc;rw[Bool.eq_false_iff];intro hc;obtain⟨j,h1,h2⟩:=Uw.1 hc;obtain⟨h,h3,h4⟩:=Uw.1 h2;rw[TH]at h1;have:=gk j (by omega) h h3;rw[this]at h4;cases h4
  rw[Jw]at hk;have Qg:(kD x H (p+1))[H.length+1]?=some (.cells [bv false] 4):=by have:=vw [];rwa [SI]at this
  refine cq ?_;refine sk ?_;refine aj ?_;simp only[seval,Qg];rw[qw Qg];refine DZ ?_;refine mI ?_;rw[aie];obtain⟨Y,vt⟩:=HX x H (p+1) [];rw[SI]at vt;refine eC vt ?_;refine ahK λL=> ?_;have cT:(H++[aa.cells x.l 76, .cells [bv false] 4]++Y++L)[H.length+1]?=some (.cells [bv false] 4):=by
   rw[SC,SC];exact aS H _ 1
  (try simp only[seval,hZ,uG,cT,aa.cellsOf]);exact lB hH hk
end
open Go.Conc Go.Proofs Go.Gg.Tk
section
variable {lv:Bool}{H:List aa}{k kp:AV->List aa->Prop}
theorem qS{n lo hi:Int}(hk:k (bv (decide (n<lo)||decide (n>hi))) H):bi lv SD 59 H [iv n,iv lo,iv hi] k kp:=by
 refine bI (rs:=[.tmp 6]) (nt:=15) Tryz.f59 λhH hA=> ?_;simp only[bp,SS];refine ak ?_;by_cases h:n<lo
 ·have h1:decide (n<lo)=true:=by simpa using h
  refine aj ?_;simp only[seval,h1];refine a_ ?_;rw[h1,Zj]at hk;exact bY hk
 ·have h1:decide (n<lo)=false:=by simpa using h
  refine aj ?_;simp only[seval,h1];refine a_ ?_;rw[h1,YG]at hk;exact bY hk
theorem IA{b:jx}{hi e at':Int}(hb:uQ b hi)(hk:k (.val .nilIface) H):bi lv SD 104 H [b.av,iv hi,iv e,iv at'] k kp:=by
 refine bI (rs:=[.tmp 8]) (nt:=33) Tryz.f104 λhH hA=> ?_;simp only[bp,SS,jx.av];have h1:(decide (b.min<0)||decide (b.min>hi))=false:=by have:=hb.min;have:=hb.le;have:=hb.max;simp;omega
 have h2:(decide (b.max<0)||decide (b.max>hi))=false:=by have:=hb.min;have:=hb.le;have:=hb.max;simp;omega
 have h3:decide (b.min>b.max)=false:=by have:=hb.le;simp;omega
 refine ak ?_;refine aj ?_;simp only[seval,jx.l];refine aL ((qS ?_));(try simp only[seval,h1]);refine aL ((qS ?_));(try simp only[seval,h2]);refine aC ?_;refine aj ?_;simp only[seval,h3];refine aC ?_;refine aP ?_;refine ak ?_;refine a_ ?_;exact lB hH hk
theorem ahq(hk:k (bv true) H):bi lv SD 52 H [] k kp:=by
 refine bI (rs:=[.tmp 0]) (nt:=1) Tryz.f52 λhH hA=> ?_;simp only[bp,SS];refine ak ?_;refine ak ?_;refine a_ ?_;exact bY hk
theorem agS{t:AV}(hk:k (bv false) H):bi lv SD 105 H [.val .nilIface,t] k kp:=by
 refine bI (rs:=[.tmp 4]) (nt:=42) Tryz.f105 λhH hA=> ?_;simp only[bp,SS];refine ak ?_;refine aj ?_;simp only[seval,F.Cy];refine aC ?_;refine ak ?_;refine a_ ?_;exact bY hk
theorem ahF(hk:k (iv 0) H):bi lv SD 84 H [.val .nilIface] k kp:=by
 refine bI (rs:=[.tmp 2]) (nt:=9) Tryz.f84 λhH hA=> ?_;simp only[bp,SS];refine ak ?_;refine ak ?_;refine aj ?_;simp only[seval,F.akW];refine aL ((agS ?_));(try simp only[seval]);refine aC ?_;refine aP ?_;refine ak ?_;refine a_ ?_;exact lB hH hk
theorem ahE{x:ai}{y:Seen}{at':Int}(hh:0<=y.hour/\y.hour<=x.hours)(hb:uQ y.next 99)(hk:k (.val .nilIface) H):bi lv SD 83 H [x.av,y.av,iv at'] k kp:=by
 refine bI (rs:=[.tmp 6]) (nt:=19) Tryz.f83 λhH hA=> ?_;simp only[bp,SS,ai.av,Seen.av];have bQ:x.l=[iv x.first,iv x.hours,iv x.am,ej x.seen,bk x.pieces,bk x.aB]:=rfl;have h1:(decide (y.hour<0)||decide (y.hour>x.hours))=false:=by simp;omega
 refine aj ?_;simp only[seval,bQ,Seen.l];refine ak ?_;refine aL ((qS ?_));(try simp only[seval,h1]);refine aC ?_;refine aP ?_;refine ak ?_;refine aL ((IA (b:=y.next) hb ?_));(try simp only[seval]);refine a_ ?_;exact lB hH hk
theorem Pe{x:ai}{l:List aG}(hx:x.Ok)(hl:∀y∈l,Hr x y)(p7:l.length<=4)(hk:k (.val .nilIface) H):bi lv SD 85 H [x.av,bk l] k kp:=by
 refine bI (rs:=[.tmp 4]) (nt:=34) Tryz.f85 λhH hA=> ?_;simp only[bp,SS,ai.av];have bQ:x.l=[iv x.first,iv x.hours,iv x.am,ej x.seen,bk x.pieces,bk x.aB]:=rfl;have aT:∀(L:List aa),(H++L)[H.length]?=L[0]?:=λL=>aS H L 0;have zd:=hx.hours;have xF:SE.wrap (x.hours-1)=x.hours-1:=bD _ (by omega);refine aj ?_;simp only[seval,bQ];refine aj ?_;simp only[seval,bk];refine cN ?_;refine wM l.length (λi:Nat=>[(11,iv i)]) (λ_=>_) (λi=>True) trivial (λcm dF i cw _ R hR=> ?_);refine ak ?_;refine aC ?_;refine⟨λh=> ?_,λh=> ?_⟩
 ·have bE:i<l.length:=by omega
  obtain⟨y,hy⟩:=cG bE;have Cu:=hl y (S_ hy);have bX:SE.wrap ((i:Int)+1)=((i+1:Nat):Int):=by rw[bD _ (by omega)];rfl
  refine aP ?_;refine aj ?_;simp only[seval,GG hy,jQ bE];refine ak ?_;refine aL ((IA (b:=y.number) Cu.number ?_));(try simp only[seval]);refine aj ?_;simp only[seval,F.Cy];refine aC ?_;refine aP ?_;refine aj ?_;simp only[seval,aT,xF];refine aL ((IA (b:=y.hour) Cu.hour ?_));(try simp only[seval]);refine aj ?_;simp only[seval,F.Cy];refine aC ?_;refine aP ?_;refine aj ?_;simp only[seval,bX];exact hR _ ⟨bE,trivial,Aa (oE rfl rfl) (by simp only[seval];simp[bB,Wk.refl]) cm (by simp[eK])⟩
 ·refine cq ?_;refine ak ?_;refine a_ ?_;exact lB hH hk
theorem IG{x:ai}(hx:x.Ok)(hk:k (iv 0) H):bi lv SD 62 H [x.av] k kp:=by
 refine bI (rs:=[.tmp 2]) (nt:=62) Tryz.f62 λhH hA=> ?_;simp only[bp,SS,ai.av];have bQ:x.l=[iv x.first,iv x.hours,iv x.am,ej x.seen,bk x.pieces,bk x.aB]:=rfl;have aT:∀(L:List aa),(H++L)[H.length]?=L[0]?:=λL=>aS H L 0;have h1:(decide (x.first<0)||decide (x.first>90))=false:=by have:=hx.first;simp;omega
 have h2:(decide (x.hours<1)||decide (x.hours>3))=false:=by have:=hx.hours;simp;omega
 have h3:(decide (x.am<1)||decide (x.am>3))=false:=by have:=hx.am;simp;omega
 have g3:decide ((3:Int)<x.seen.length)=false:=by have:=hx.Ac;simp;omega
 have g4:decide ((4:Int)<x.pieces.length)=false:=by have:=hx.dI;simp;omega
 have g5:decide ((3:Int)<x.aB.length)=false:=by have:=hx.fD;simp;omega
 refine aj ?_;simp only[seval,bQ];refine aj ?_;simp only[seval,aT];refine aL ((qS ?_));(try simp only[seval,h1,aT]);refine aL ((qS ?_));(try simp only[seval,h2,aT]);refine aL ((qS ?_));(try simp only[seval,h3]);refine aC ?_;refine aP ?_;refine aj ?_;simp only[seval,aT,ej,g3];refine aC ?_;refine aP ?_;refine aj ?_;simp only[seval,aT,ej];refine cN ?_;refine wM x.seen.length (λi:Nat=>[(27,iv i)]) (λ_=>_) (λi=>True) trivial (λcm dF i cw _ R hR=> ?_);refine ak ?_;refine aC ?_;refine⟨λh=> ?_,λh=> ?_⟩
 ·have bE:i<x.seen.length:=by omega
  obtain⟨y,hy⟩:=cG bE;have Cu:=hx.seen y (S_ hy);have bX:SE.wrap ((i:Int)+1)=((i+1:Nat):Int):=by have:=hx.Ac;rw[bD _ (by omega)];rfl
  refine aP ?_;refine aj ?_;simp only[seval,abR hy,jQ bE];refine aj ?_;simp only[seval,aT];refine aL ((ahE (x:=x) (y:=y) Cu.1 Cu.2 ?_));(try simp only[seval]);refine aj ?_;simp only[seval,F.Cy];refine aC ?_;refine aP ?_;refine aj ?_;simp only[seval,bX];exact hR _ ⟨bE,trivial,Aa (oE rfl rfl) (by simp only[seval];simp[bB,Wk.refl]) cm (by simp[eK])⟩
 ·refine cq ?_;refine aj ?_;simp only[seval,aT,bk,g4];refine aC ?_;refine aP ?_;refine aj ?_;simp only[seval,aT];refine aL ((Pe (x:=x) (l:=x.pieces) hx hx.piece hx.dI ?_));(try simp only[seval]);refine aj ?_;simp only[seval,F.Cy];refine aC ?_;refine aP ?_;refine aj ?_;simp only[seval,aT,g5];refine aC ?_;refine aP ?_;refine aj ?_;simp only[seval,aT];refine aL ((Pe (x:=x) (l:=x.aB) hx hx.stub (by have:=hx.fD;omega) ?_));(try simp only[seval]);refine aL ((ahF ?_));(try simp only[seval]);refine a_ ?_;exact lB hH hk
end
def Nm (lv:Bool)(H:List aa)(f:AV)(b:Bool):Prop:=∀(L:List aa)(k kp:AV->List aa->Prop),k (bv b) (H++L)->ja lv SD f (H++L) [] k kp
def oM:List AV:=[iv 0,iv 0,iv 0, .sl 0 [] .exact, .sl 0 [] .exact, .sl 0 [] .exact]
def eX (D:Kn):Int:=if D.has then 0 else 11
theorem lC{x:ai}{deep:Int}{p:Nat}{H:List aa}{k kp:AV->List aa->Prop}{f:AV}{b:Bool}(hx:x.Ok)(hp:x.am=p)(hm:H[0]?=some .main)(hf:Nm true H f b)(gZ:b=false->k (.aK [.agg oM, .agg iJ,iv 3]) H)(cx:b=true->∀js D L mp,js.Perm (SX (p+1))->m9 x deep js D->bP D->H.length<=mp->(H++L)[mp]?=some (setH D.aH)->k (.aK [x.av, .agg (D.l mp),iv (eX D)]) (H++L)):bi true SD 51 H [x.av,iv deep,f] k kp:=by
 refine bI (rs:=[.cell 6 76, .cell 7 88, .tmp 8]) (nt:=36) Tryz.f51 λhH hA=> ?_;simp only[bp,SS,ai.av];have bQ:x.l=[iv x.first,iv x.hours,iv x.am,ej x.seen,bk x.pieces,bk x.aB]:=rfl;have aT:∀(L:List aa),(H++L)[H.length]?=L[0]?:=λL=>aS H L 0;have cZ:∀(L:List aa),(H++L)[H.length+1]?=L[1]?:=λL=>aS H L 1;have iB:∀(L:List aa),(H++L)[H.length+2]?=L[2]?:=λL=>aS H L 2;refine ak ?_;refine aj ?_;simp only[seval,aT,bQ];refine aL ((IG (x:=x) hx ?_));(try simp only[seval]);refine ak ?_;refine aC ?_;refine aP ?_;refine ak ?_;refine wR (hf _ _ _ ?_);(try simp only[seval]);refine aC ?_;refine⟨λhb=> ?_,λhb=> ?_⟩
 ·have dG:b=false:=by simpa using hb
  have:=gZ dG;refine ak ?_;refine mI ?_;simp only[seval,cZ,iB];exact je hH (Wk.refl _) (by simp[iV,qp,eK,oM,iJ,Ly]) this
 ·have dG:b=true:=by simpa using hb
  refine aP ?_;refine aj ?_;simp only[seval,aT];refine⟨⟨rfl,rfl,rfl⟩, ?_⟩;have za:∀(L:List aa),(H++L)[H.length+3]?=L[3]?:=λL=>aS H L 3;refine aj ?_;simp only[seval,za];refine aL ((ahB (x:=x) hx (Am hx) hp (ey hm) λjs D L5 dp dL bA hl5=> ?_));have bU:=λmp=>Kn.len bA mp;have eB:=kv D;obtain⟨z0,z1,z2,z3,z4,rfl⟩:∃z0 z1 z2 z3 z4,L5=[z0,z1,z2,z3,z4]:=by
   match L5,hl5 with
   |[a,b,c,d,e],_=>exact⟨a,b,c,d,e,rfl⟩
  (try simp only[seval,bU]);refine⟨eB _, ?_⟩;have bW:∀(L:List aa)(j:Nat),(H++L)[H.length+j]?=L[j]?:=λL j=>aS H L j;have jZ:∀(L:List aa)(j:Nat)(y:aa),(H++L).set (H.length+j) y=H++L.set j y:=λL j y=>de H L j y;have aje:∀(L:List aa),(H++L)[H.length+10]?=L[10]?:=λL=>aS H L 10;obtain⟨mp,jX⟩:∃mp,mp=H.length+4+5:=⟨_,rfl⟩;rw[<- jX];refine aj ?_;simp only[seval,aje,Kn.Bp];obtain⟨lg,db⟩:∃lg:List AV->List AV->List aa,∀u v,lg u v=H++[.cells x.l 26, .cells u 76, .cells v 88, .cells x.l 76,z0,z1,z2,z3,z4,setH D.aH, .cells (D.l mp) 88]:=⟨_,λ_ _=>rfl⟩;have p1:∀u v,(lg u v)[H.length+1]?=some (.cells u 76):=λu v=>by rw[db,bW];rfl
  have p2:∀u v,(lg u v)[H.length+2]?=some (.cells v 88):=λu v=>by rw[db,bW];rfl
  have p3:∀u v,(lg u v)[H.length+3]?=some (.cells x.l 76):=λu v=>by rw[db,bW];rfl
  have p10:∀u v,(lg u v)[H.length+10]?=some (.cells (D.l mp) 88):=λu v=>by rw[db,bW];rfl
  have s1:∀u v w,(lg u v).set (H.length+1) (.cells w 76)=lg w v:=λu v w=>by rw[db,jZ,db];rfl
  have s2:∀u v w,(lg u v).set (H.length+2) (.cells w 88)=lg u w:=λu v w=>by rw[db,jZ,db];rfl
  have eA:∀(e:Int),e=eX D->k (.aK [x.av, .agg (D.l mp),iv e]) (lg x.l (D.l mp)):=λe he=>by
   rw[he,db];refine cx dG js D _ mp dp dL bA (by omega) ?_;rw[jX,show H.length+4+5=H.length+9 from rfl,bW];rfl
  have e0:=db oM iJ;simp only[oM,iJ,bQ,iv,bv,wv,TG,Vb,Up,push_cast,Int.cast_ofNat_Int]at e0;rw[<- e0];clear e0;have br:x.l.length=6:=rfl;have mS:iJ.length=28:=rfl;have RZ:oM.length=6:=rfl;have eJ:T_ 6 x.l=x.l:=rfl;have Fy:T_ 28 (D.l mp)=D.l mp:=SW (by rw[bU];exact SO _);have vE:∀l:List AV,l.length=28->D.l mp++Ud (D.l mp).length l=D.l mp:=λl hl=>by rw[bU,TK (by omega),SI]
  have RX:∀a∈x.l,a.leaf=true:=λa ha=>by
   simp only[ai.l,SK,SU,or_false]at ha;rcases ha with rfl|rfl|rfl|rfl|rfl|rfl<;>rfl
  refine aC ?_;refine⟨λhh=> ?_,λhh=> ?_⟩
  ·have Jc:D.has=false:=(by simpa using hh);have:=eA 11 (by rw[eX,Jc];rfl);refine qM [2,3] [0,1,2,3,4] [⟨0,false,[],[]⟩,⟨1,false,[],[([2],[2])]⟩,⟨2,true,[2],[]⟩,⟨3,true,[2,3],[]⟩,⟨4,false,[2,3],[]⟩] (λD'=>bif isDone 3 D' then lg x.l (D.l mp)else bif isDone 2 D' then lg x.l iJ else lg oM iJ) ?_;simp only[seval,p1,p2,p3,p10,s1,s2,bU,br,mS,RZ,eB];rw[eJ,Fy];refine⟨rfl,SO _,RX,rfl,bU _,by rw[bU];exact SO _,eB _,by rw[vE _ rfl];rfl, ?_⟩;refine mI ?_;simp only[seval,p1,p2,bU];rw[Fy];refine eC (a:=[x.av, .agg (D.l mp),iv 11]) rfl ?_;exact bY this
  ·have Jc:D.has=true:=(by simpa using hh);have:=eA 0 (by rw[eX,Jc];rfl);refine aP ?_;refine qM [2,3] [0,1,2,3,4] [⟨0,false,[],[]⟩,⟨1,false,[],[([2],[2])]⟩,⟨2,true,[2],[]⟩,⟨3,true,[2,3],[]⟩,⟨4,false,[2,3],[]⟩] (λD'=>bif isDone 3 D' then lg x.l (D.l mp)else bif isDone 2 D' then lg x.l iJ else lg oM iJ) ?_;simp only[seval,p1,p2,p3,p10,s1,s2,bU,br,mS,RZ,eB];rw[eJ,Fy];refine⟨rfl,SO _,RX,rfl,bU _,by rw[bU];exact SO _,eB _,by rw[vE _ rfl];rfl, ?_⟩;refine mI ?_;simp only[seval,p1,p2,bU];rw[Fy];refine eC (a:=[x.av, .agg (D.l mp),iv 0]) rfl ?_;exact bY this
namespace Tk
def fQ (s:Nat)(more:Int)(i:Nat):List Int:=((SX i).filter s.testBit).map λn:Nat=>(n:Int)+more
theorem aab(s:Nat)(more:Int)(i:Nat):fQ s more (i+1)=if s.testBit i then fQ s more i++[(i:Int)+more]else fQ s more i:=by
 unfold fQ;rw[UV,List.filter_append,Tv];by_cases h:s.testBit i=true
 ·simp[h]
 ·simp[h]
theorem Lu(s:Nat)(more:Int)(i:Nat):(fQ s more i).length<=i:=by
 unfold fQ;rw[Tj];exact Ur (List.length_filter_le _ _) (by simp)
end Tk
theorem z1:gU (SG .i64 0) 1=[iv 0]:=rfl
section
variable {lv:Bool}{H:List aa}{k kp:AV->List aa->Prop}
theorem IF{s:Nat}{more:Int}(hs:s<65536)(hm:0<=more/\more<=1000)(hk:k (bu (fQ s more 16)) H):bi lv SD 56 H [wv s,iv more] k kp:=by
 refine bI (rs:=[.tmp 4]) (nt:=21) Tryz.f56 λhH hA=> ?_;simp only[bp,SS];refine ak ?_;refine ak ?_
 (repeat apply iA);refine u6 (t:=5) (sz:=1) (el:=3) (by simp only[seval]<;>rfl) ?_
 refine ak ?_;refine cN ?_;refine gM 16 (λi:Nat=>[(5, .sl (fQ s more i).length ((fQ s more i).map iv) (.opn H.length)),(7,iv i)]) (λi=>H++[.tail (fQ s more i).length 1 3]) (λ_=>True) (λ_ _=>rfl) (by simp only[seval];simp[bB,Wk.refl];exact Wk.refl _) rfl (λ_ _ _=>by simp) trivial (λcm dF i cw hi R hR=> ?_);refine ak ?_;refine aC ?_;refine⟨λh=> ?_,λh=> ?_⟩
 ·have hl:i<16:=by omega
  have f_:SE.wrap ((i:Int)+1)=((i+1:Nat):Int):=by rw[bD _ (by omega)];rfl
  have ud:SE.wrap ((i:Int)+more)=(i:Int)+more:=bD _ (by omega);have jh:=Lu s more i;refine aP ?_;refine ak ?_;refine ak ?_;refine aL ((w5 hs ?_));(try simp only[seval]);refine aC ?_;refine⟨λhb=> ?_,λhb=> ?_⟩
  ·refine aj ?_;simp only[seval,z1,ud]
   first|refine⟨by decide,by omega, ?_⟩|refine⟨by omega, ?_⟩
   refine aj ?_;simp only[seval,f_];have dc:fQ s more (i+1)=fQ s more i++[(i:Int)+more]:=(by rw[aab,if_pos hb]);refine hR _ ⟨hl,trivial, ?_⟩;rw[dc,Tv,SQ];exact dR
  ·refine aP ?_;refine aj ?_;simp only[seval,f_];have dc:fQ s more (i+1)=fQ s more i:=(by rw[aab,if_neg (by simpa using hb)]);refine hR _ ⟨hl,trivial, ?_⟩;rw[dc];exact dR
 ·refine cq ?_;have:i=16:=by omega
  subst this;refine ak ?_;refine a_ ?_;rw[bu]at hk;exact je hH (jw _ _ _) (by simp[uC,eK]) hk
theorem ahD{x:ai}{n:Int}{ir:Nat}(hx:x.Ok)(hr:H[ir]?=some (.cells x.l 26))(hk:k (bv (decide (n<0)||decide (n>(x.pieces.length:Int)-1))) H):bi lv SD 82 H [iv n, .op ir 0] k kp:=by
 refine bI (rs:=[.tmp 3]) (nt:=10) Tryz.f82 λhH hA=> ?_;simp only[bp,SS];have bQ:x.l=[iv x.first,iv x.hours,iv x.am,ej x.seen,bk x.pieces,bk x.aB]:=rfl;have oC:=hx.dI;have hw:SE.wrap ((x.pieces.length:Int)-1)=(x.pieces.length:Int)-1:=bD _ (by omega);refine ak ?_;refine aj ?_;simp only[seval,hr,bQ,bk,hw];refine aL ((qS ?_));(try simp only[seval]);refine a_ ?_;exact bY hk
theorem agR{ns:List Int}{f:AV}{e:End}(ji:ns.length<=4)(g:Int->Bool)(hf:∀n∈ns,∀(k kp:AV->List aa->Prop),k (bv (g n)) H->ja lv SD f H [iv n] k kp)(hk:k (iv (match ns.findIdx? g with|some i=>(i:Int)|none=> -1)) H):bi lv SD 103 H [.sl ns.length (ns.map iv) e,f] k kp:=by
 refine bI (rs:=[.tmp 4]) (nt:=19) Tryz.f103 λhH hA=> ?_;simp only[bp,SS];refine ak ?_;refine ak ?_;refine cN ?_;refine wM ns.length (λi:Nat=>[(8,iv i)]) (λ_=>_) (λi=>∀n∈ns.take i,g n=false) (by simp) (λcm dF i cw hi R hR=> ?_);refine ak ?_;refine aC ?_;refine⟨λh=> ?_,λh=> ?_⟩
 ·have bE:i<ns.length:=by omega
  obtain⟨n,hn⟩:=cG bE;have f_:SE.wrap ((i:Int)+1)=((i+1:Nat):Int):=by rw[bD _ (by omega)];rfl
  refine aP ?_;refine ak ?_;refine aj ?_;simp only[seval,h_ hn,jQ bE];refine wR (hf n (S_ hn) _ _ ?_);(try simp only[seval]);refine aC ?_;refine⟨λhg=> ?_,λhg=> ?_⟩
  ·refine ak ?_;refine a_ ?_;have:ns.findIdx? g=some i:=by
    rw[WN];refine⟨bE, ?_,λj hj=> ?_⟩
    ·rw[SV bE]at hn;cases hn;exact hg
    ·have:=hi ns[j] (by rw[List.mem_take_iff_getElem];exact⟨j,by omega,rfl⟩);simp[this]
   rw[this]at hk;exact bY hk
  ·refine aP ?_;refine aj ?_;simp only[seval,f_];refine hR _ ⟨bE,λm hm=> ?_,dR⟩;rw[Vh,hn]at hm;rcases SN.1 hm with h'|h'
   ·exact hi m h'
   ·simp at h';rw[h'];simpa using hg
 ·have:i=ns.length:=by omega
  subst this;rw[TE]at hi;refine cq ?_;refine ak ?_;refine a_ ?_;have:ns.findIdx? g=none:=by rw[Xv];exactλn hn=>hi n hn
  rw[this]at hk;exact bY hk
theorem ahC{ns:List Int}{f:AV}{e:End}(ji:ns.length<=4)(g:Int->Bool)(hf:∀n∈ns,∀(k kp:AV->List aa->Prop),k (bv (g n)) H->ja lv SD f H [iv n] k kp)(hk:k (bv (ns.any g)) H):bi lv SD 81 H [.sl ns.length (ns.map iv) e,f] k kp:=by
 refine bI (rs:=[.tmp 4]) (nt:=9) Tryz.f81 λhH hA=> ?_;simp only[bp,SS];refine ak ?_;refine ak ?_;refine aL ((agR ji g hf ?_));(try simp only[seval]);refine a_ ?_;refine bY ?_;have:decide ((match ns.findIdx? g with|some i=>(i:Int)|none=> -1)>=0)=ns.any g:=by
  cases h:ns.findIdx? g with
  |none=>
   rw[Xv]at h;have:ns.any g=false:=by
    rw[List.any_eq_false];exactλn hn=>by simp[h n hn]
   rw[this];rfl
  |some i=>
   rw[WN]at h;obtain⟨h1,h2,_⟩:=h;have:ns.any g=true:=Uw.2 ⟨ns[i],VM h1,h2⟩;rw[this];simp
 rw[this];exact hk
def mv (x:ai)(ns:List Int):Bool:= !(ns.any λn=>decide (n<0)||decide (n>(x.pieces.length:Int)-1))
theorem od{x:ai}{ns:List Int}{e:End}{il ir:Nat}(hx:x.Ok)(ji:ns.length<=4)(hl:H[il]?=some (.cells [.sl ns.length (ns.map iv) e] 22))(hr:H[ir]?=some (.cells x.l 26))(hk:k (bv (mv x ns)) H):bi lv SD 80 H [.op il 0, .op ir 0] k kp:=by
 refine bI (rs:=[.tmp 2]) (nt:=7) Tryz.f80 λhH hA=> ?_;simp only[bp,SS];refine ak ?_;refine aj ?_;simp only[seval,hl,TS,Um,T5,TD];refine aL ((ahC (ns:=ns) ji (λn=>decide (n<0)||decide (n>(x.pieces.length:Int)-1)) (λn hn k kp hk=> ?_) ?_))
 ·exact bT (ahD hx hr hk)
 (try simp only[seval]);refine a_ ?_;exact bY hk
theorem oc{x:ai}{ns:List Int}{e:End}(hk:k (.fn (.func 80) [] [.op (H.length+1) 0, .op H.length 0]) (H++[.cells x.l 26, .cells [.sl ns.length (ns.map iv) e] 22])):bi lv SD 58 H [x.av, .sl ns.length (ns.map iv) e] k kp:=by
 refine bI (rs:=[.tmp 4]) (nt:=6) Tryz.f58 λhH hA=> ?_;simp only[bp,SS,ai.av];refine ak ?_;refine aj ?_;simp only[seval,TS,Um,T5,TD];refine a_ ?_;exact bY hk
end
open Go.Conc Go.Proofs Go.Gg.Tk
structure bt where
 aA:List Int
 g:Int
 s:Int
def ya (τ:bt):aa:= .cells [bu τ.aA, .val (.int .i64 τ.g), .val (.int .u64 τ.s)] 73
def Hc (a b:Int):Int:=Ts.wrap (T4 Ts.bits a^^^T4 Ts.bits b).toNat
def acR (g:Int):Int:=Ts.wrap (Ts.wrap (Ts.wrap g* 15074714826142052245)+11400714819323198485)
def M6 (τ:bt):Int:=match τ.aA[τ.g.toNat]?with
 |some x=>Hc (acR τ.g) (Ts.wrap (Ts.wrap x* 12620523164723586485))
 |none=>acR τ.g
def amv (s w:Int):Int:=Ts.wrap (Ts.wrap (s+w)* 13787848793156543929)
def amw (s:Int):Int:=Hc s (s.fdiv (2^min 31 Ts.bits))
def Gl (s:Int):Int:=(Hc s (s.fdiv (2^min 27 Ts.bits))).fdiv (2^min 9 Ts.bits)
def tick (τ:bt):bt:=⟨τ.aA,τ.g+1,amw (amv τ.s (M6 τ))⟩
def wa (τ:bt):Int:=Gl (Ts.wrap ((tick τ).s* 10723151780598845931))
theorem acK(n:Int)(h0:0<=n)(h:n<2^64):Ts.wrap n=n:=by
 have h1:Ts.bits=64:=rfl;have h2:Ts.signed=false:=rfl;unfold Wy;rw[h1,h2];simp;omega
theorem aqX(n:Int):0<=Ts.wrap n/\Ts.wrap n<2^64:=by
 have h1:Ts.bits=64:=rfl;have h2:Ts.signed=false:=rfl;unfold Wy;rw[h1,h2];simp;omega
theorem aaT(s:Int):0<=Gl s/\Gl s<2^55:=by
 unfold Gl Hc;have h:=aqX (T4 Ts.bits s^^^T4 Ts.bits (s.fdiv (2^min 27 Ts.bits))).toNat;have e:(2:Int)^min 9 Ts.bits=512:=by decide
 rw[e,Int.fdiv_eq_ediv_of_nonneg _ (show (0:Int)<=512 by decide)];omega
def dO (τ:bt)(n:Int):Int:=if n<1 then 0 else(wa τ).tmod (n+1)
theorem mZ(τ:bt)(n:Int):0<=dO τ n/\(dO τ n<=n\/dO τ n=0):=by
 unfold dO;split
 ·omega
 ·have h:=(aaT (Ts.wrap ((tick τ).s* 10723151780598845931))).1;have h1:=Int.tmod_nonneg (n+1) h;have h2:=Int.tmod_lt_of_pos (wa τ) (show 0<n+1 by omega);unfold wa at h2⊢;omega
def Dh (τ:bt)(lo hi:Int):Int:=lo+dO τ (hi-lo)
theorem arb(τ:bt){lo hi:Int}(h:lo<=hi):lo<=Dh τ lo hi/\Dh τ lo hi<=hi:=by
 have:=mZ τ (hi-lo);unfold Dh;omega
def aot (τ:bt)(n:Int):Bool:=dO τ (n-1)==0
structure ew (Gf:bt->List aa)(t N:Nat):Prop where
 len:∀τ,(Gf τ).length=N
 get:∀τ,(Gf τ)[t]?=some (ya τ)
 set:∀τ τ',(Gf τ).set t (ya τ')=Gf τ'
 ok:∀m τ τ',(∀z∈Gf τ,eR m z)->∀z∈Gf τ',eR m z
theorem ew.more{Gf:bt->List aa}{t N:Nat}(h:ew Gf t N)(L:List aa):ew (λτ=>Gf τ++L) t (N+L.length)where
 len:=λτ=>by simp[h.len]
 get:=λτ=>ey (h.get τ)
 set:=λτ τ'=>by show (Gf τ++L).set t _=_;rw[WQ _ _ (eU (h.get τ)),h.set]
 ok:=λm τ τ' hk z hz=>(SN.1 hz).elim (λhz=>h.ok m τ τ' (λv hv=>hk v (Tb _ hv)) z hz) (λhz=>hk z (SZ _ hz))
theorem ew.ay{Gf:bt->List aa}{t N:Nat}(h:ew Gf t N){τ:bt}(hH:bL (Gf τ))(τ':bt):bL (Gf τ'):=λz hz=>by
 have:=h.ok N τ τ' (λw hw=>by have:=hH w hw;rwa [h.len]at this) z hz;rwa [h.len]
section
variable {Gf:bt->List aa}{t N:Nat}(h:ew Gf t N)
include h
theorem ew.g0(τ:bt)(L:List aa):(Gf τ++L)[N]?=L[0]?:=by have:=uX (Gf τ) L 0;rwa [h.len]at this
theorem ew.g1(τ:bt)(L:List aa):(Gf τ++L)[N+1]?=L[1]?:=by have:=uX (Gf τ) L 1;rwa [h.len]at this
theorem ew.g2(τ:bt)(L:List aa):(Gf τ++L)[N+1+1]?=L[2]?:=by have:=uX (Gf τ) L 2;rwa [h.len]at this
theorem ew.g3(τ:bt)(L:List aa):(Gf τ++L)[N+1+1+1]?=L[3]?:=by have:=uX (Gf τ) L 3;rwa [h.len]at this
theorem ew.h2(τ:bt)(L:List aa):(Gf τ++L)[N+2]?=L[2]?:=h.g2 τ L
theorem ew.h3(τ:bt)(L:List aa):(Gf τ++L)[N+3]?=L[3]?:=h.g3 τ L
theorem ew.s0(τ:bt)(L:List aa)(x:aa):(Gf τ++L).set N x=Gf τ++L.set 0 x:=by have:=uY (Gf τ) L 0 x;rwa [h.len]at this
theorem ew.s1(τ:bt)(L:List aa)(x:aa):(Gf τ++L).set (N+1) x=Gf τ++L.set 1 x:=by have:=uY (Gf τ) L 1 x;rwa [h.len]at this
theorem ew.s2(τ:bt)(L:List aa)(x:aa):(Gf τ++L).set (N+1+1) x=Gf τ++L.set 2 x:=by have:=uY (Gf τ) L 2 x;rwa [h.len]at this
theorem ew.s3(τ:bt)(L:List aa)(x:aa):(Gf τ++L).set (N+1+1+1) x=Gf τ++L.set 3 x:=by have:=uY (Gf τ) L 3 x;rwa [h.len]at this
theorem ew.t2(τ:bt)(L:List aa)(x:aa):(Gf τ++L).set (N+2) x=Gf τ++L.set 2 x:=h.s2 τ L x
theorem ew.t3(τ:bt)(L:List aa)(x:aa):(Gf τ++L).set (N+3) x=Gf τ++L.set 3 x:=h.s3 τ L x
end
theorem am1(m:Nat)(τ:bt):eR m (ya τ):=by
 intro a ha;simp only[SK,SU,or_false]at ha;rcases ha with rfl|rfl|rfl
 ·rw[xM];trivial
 ·exact .val _
 ·exact .val _
theorem aqG(H:List aa):ew (λτ=>H++[ya τ]) H.length (H.length+1)where
 len:=λτ=>by simp
 get:=λτ=>by simp
 set:=λτ τ'=>by simp
 ok:=λm τ τ' hk z hz=>by
  rcases SN.1 hz with hz|hz
  ·exact hk z (Tb _ hz)
  ·rw[S5.1 hz];exact am1 _ _
structure bt.Ok (τ:bt)(b:Int):Prop where
 g0:0<=τ.g
 g:τ.g<=b
 len:τ.aA.length<=2^50
section
variable {lv:Bool}{H:List aa}{k kp:AV->List aa->Prop}{Gf:bt->List aa}{t N:Nat}{τ:bt}{b:Int}
theorem ag7{aA:List Int}(hk:k (.op H.length 0) (H++[ya ⟨aA,0,7640891576956012809⟩])):bi lv SD 16 H [bu aA] k kp:=by
 refine bI (rs:=[.tmp 2]) (nt:=6) Tryz.f16 λhH hA=> ?_;simp only[bp,SS];refine ak ?_;refine ak ?_;refine a_ ?_;exact bY hk
theorem bt.Ok.tick(h:τ.Ok b):(tick τ).Ok (b+1):=⟨by have:=h.g0;show 0<=τ.g+1;omega,by have:=h.g;show τ.g+1<=b+1;omega,h.len⟩
theorem bt.Ok.mono{b':Int}(h:τ.Ok b)(hb:b<=b'):τ.Ok b':=⟨h.g0,by have:=h.g;omega,h.len⟩
theorem aht(hT:ew Gf t N)(hτ:τ.Ok b)(hb:b<2^60)(hk:k (.val (.int .u64 (wa τ))) (Gf (tick τ))):bi lv SD 55 (Gf τ) [.op t 0] k kp:=by
 obtain⟨aA,g,s⟩:=τ;obtain⟨ov,hgb,QY⟩:=hτ;simp only at ov hgb QY;refine bI (rs:=[.tmp 2]) (nt:=76) Tryz.f55 λhH hA=> ?_;simp only[bp,SS];have hg:∀τ,(Gf τ)[t]?=some (.cells [.sl τ.aA.length (τ.aA.map iv) .shut, .val (.int .i64 τ.g), .val (.int .u64 τ.s)] 73):=hT.get;have hs:∀τ (CP:List Int) g' s',(Gf τ).set t (.cells [.sl CP.length (CP.map iv) .shut, .val (.int .i64 g'), .val (.int .u64 s')] 73)=Gf ⟨CP,g',s'⟩:=λτ CP g' s'=>hT.set τ ⟨CP,g',s'⟩;obtain⟨n,rfl⟩:∃n:Nat,g=n:=⟨g.toNat,by omega⟩;have hw:SE.wrap ((n:Int)+1)=n+1:=bD _ (by omega);refine ak ?_;refine aj ?_;simp only[seval,hg];refine eS 9 ?_;simp only[seval,hg];refine aC ?_;refine⟨λh=> ?_,λh=> ?_⟩
 ·have jY:n<aA.length:=by simpa using h
  obtain⟨x,hx⟩:=cG jY;refine eS 13 ?_;simp only[seval,hg,h_ hx,jQ jY,A0];refine aj ?_;simp only[seval,hg,hw,hs];refine aj ?_;simp only[seval,hg,hs];refine eS 11 ?_;simp only[seval,hg,hs,AZ,A0];refine aj ?_;simp only[seval,hg];refine aj ?_;simp only[seval,AZ,A0];refine a_ ?_;refine bY ?_;unfold wa tick M6 at hk;simp only[U8,hx]at hk;exact hk
 ·have jY:¬n<aA.length:=by simpa using h
  have hx:aA[n]?=none:=by rw[Us];omega
  refine aP ?_;refine aj ?_;simp only[seval,hg,hw,hs];refine aj ?_;simp only[seval,hg,hs];refine eS 11 ?_;simp only[seval,hg,hs,AZ,A0];refine aj ?_;simp only[seval,hg];refine aj ?_;simp only[seval,AZ,A0];refine a_ ?_;refine bY ?_;unfold wa tick M6 at hk;simp only[U8,hx]at hk;exact hk
theorem sw{n:Int}(hT:ew Gf t N)(hτ:τ.Ok b)(hb:b<2^60)(hn:n<2^60)(hk:k (iv (dO τ n)) (Gf (tick τ))):bi lv SD 25 (Gf τ) [.op t 0,iv n] k kp:=by
 refine bI (rs:=[.tmp 4]) (nt:=16) Tryz.f25 λhH hA=> ?_;simp only[bp,SS];refine ak ?_;refine ak ?_;refine aL ((aht hT hτ hb ?_));(try simp only[seval]);refine ak ?_;refine aC ?_;refine⟨λh=> ?_,λh=> ?_⟩
 ·have h:n<1:=by simpa using h
  refine ak ?_;refine a_ ?_;rw[dO,if_pos h]at hk;exact bY hk
 ·have h:¬n<1:=by simpa using h
  have ho:=aaT (Ts.wrap ((tick τ).s* 10723151780598845931));have bX:Ts.wrap n=n:=acK n (by omega) (by omega);have gH:Ts.wrap (n+1)=n+1:=acK _ (by omega) (by omega);have oA:n+1≠0:=by omega
  have hr:=mZ τ n;rw[dO,if_neg h]at hk hr;have vV:SE.wrap ((wa τ).tmod (n+1))=(wa τ).tmod (n+1):=bD _ (by omega);refine aP ?_;refine aj ?_;simp only[seval,adU,bX,gH,vV,oA];refine a_ ?_;exact bY hk
theorem ahd{lo hi:Int}(hT:ew Gf t N)(hτ:τ.Ok b)(hb:b<2^60)(pc:0<=lo/\lo<2^20)(EU: -1<=hi/\hi<2^20)(hk:k (iv (Dh τ lo hi)) (Gf (tick τ))):bi lv SD 23 (Gf τ) [.op t 0,iv lo,iv hi] k kp:=by
 refine bI (rs:=[.tmp 6]) (nt:=14) Tryz.f23 λhH hA=> ?_;simp only[bp,SS];have bX:SE.wrap (hi-lo)=hi-lo:=bD _ (by omega);have hr:=mZ τ (hi-lo);have gH:SE.wrap (lo+dO τ (hi-lo))=lo+dO τ (hi-lo):=bD _ (by omega);refine ak ?_;refine aj ?_;simp only[seval,bX];refine aL ((sw hT hτ hb (by omega) ?_));(try simp only[seval,gH]);refine a_ ?_;exact bY hk
theorem O_{n:Int}(hT:ew Gf t N)(hτ:τ.Ok b)(hb:b<2^60)(hn:0<=n/\n<2^20)(hk:k (bv (aot τ n)) (Gf (tick τ))):bi lv SD 46 (Gf τ) [.op t 0,iv n] k kp:=by
 refine bI (rs:=[.tmp 4]) (nt:=10) Tryz.f46 λhH hA=> ?_;simp only[bp,SS];have bX:SE.wrap (n-1)=n-1:=bD _ (by omega);refine ak ?_;refine aj ?_;simp only[seval,bX];refine aL ((sw hT hτ hb (by omega) ?_));(try simp only[seval]);refine a_ ?_;exact bY hk
end
theorem v7{α:Type}{xs:List α}{i:Nat}{x:α}(h:xs[i]?=some x):x∈xs:=S_ h
section
variable {lv:Bool}{H:List aa}{k kp:AV->List aa->Prop}
inductive sh:List AV->List AV->Prop
 |nil:sh [] []
 |cons {a b:AV} {l m:List AV} (h:Wk a b) (t:sh l m):sh (a::l) (b::m)
theorem sh.len{l m:List AV}(h:sh l m):l.length=m.length:=by
 induction h with
 |nil=>rfl
 |cons _ _ ih=>simp[ih]
theorem sh.at{l m:List AV}(h:sh l m):∀(i:Nat)(a b:AV),m[i]?=some a->l[i]?=some b->Wk b a:=by
 induction h with
 |nil=>intro i a b h;simp at h
 |cons h _ ih=>
  intro i a b h1 h2
  match i with
  |0=>cases h1;cases h2;exact h
  |i+1=>exact ih i a b h1 h2
theorem M4{l l':List AV}(h:sh l l'):Wk (.agg l) (.agg l'):=λE v hd=>by
 cases hd with
 |agg hs h1=>
  refine .agg (by rw[hs,h.len]) λi x hx=> ?_;obtain⟨y,hy⟩:=cG (xs:=l) (i:=i) (by rw[h.len];exact eU hx);exact h.at i x y hx hy E _ (h1 i y hy)
theorem M5{n:Nat}{l l':List AV}{e:End}(hl:l.length=l'.length)(h:∀(i:Nat) a b,l'[i]?=some a->l[i]?=some b->Wk b a):Wk (.sl n l e) (.sl n l' e):=λE v hd=>by
 cases hd with
 |sl b o cap f hc he h1 h2=>
  refine .sl b o cap f hc he (λi hi=>h1 i (by omega)) λi x hx=> ?_;obtain⟨y,hy⟩:=cG (xs:=l) (i:=i) (by have:=eU hx;omega);exact h i x y hx hy E _ (h2 i y hy)
 |nil he=>
  have:l'=[]:=List.eq_nil_of_length_eq_zero hl.symm;subst this;exact .nil he
theorem LX:(1<=2^24)=True:=by simp
theorem Kl{H L:List aa}(h:bL H)(hL:∀z∈L,∀n,eR n z):bL (H++L):=λz hz=>by
 rcases SN.1 hz with h'|h'
 ·exact(h z h').mono (by simp)
 ·exact hL z h' _
theorem Gy{base Vi Vn T:List (Nat×AV)}{H H':List aa}(G:List aa)(hk:r_ T (Vi++base) Vn)(hv:∀p∈Vn,∃b,look T p.1=some b/\Wk b p.2)(ay:bL H)(hlt:∀p∈Vn,Lt H.length p.2)(hG:H'=H++G):tF base Vi Vn H ⟨T,H'⟩:=⟨hk,hv,G,hG, .inr ⟨ay,hlt⟩⟩
theorem aqr{xs ys:List Int}{i:Nat}{x y:Int}(hx:xs[i]?=some x)(hy:ys[i]?=some y)(h:xs.take i=ys.take i)(e:x=y):xs.take (i+1)=ys.take (i+1):=by
 obtain⟨hj,rfl⟩:=SM.1 hx;obtain⟨hk,rfl⟩:=SM.1 hy;rw[W4 hj,W4 hk,h,e]
theorem yK{xs ys:List Int}{e e':End}(hx:xs.length<2^60)(hk:k (bv (decide (xs=ys))) H):bi lv SD 20 H [.sl xs.length (xs.map iv) e, .sl ys.length (ys.map iv) e'] k kp:=by
 refine bI (rs:=[.tmp 4]) (nt:=26) Tryz.f20 λhH hA=> ?_;simp only[bp,SS];refine ak ?_;refine ak ?_;refine aC ?_;refine⟨λh=> ?_,λh=> ?_⟩
 ·have h:xs≠ys:=λe=>by subst e;simp at h
  refine ak ?_;refine a_ ?_;rw[decide_eq_false h]at hk;exact bY hk
 ·have h:xs.length=ys.length:=by
   have h:(xs.length:Int)=ys.length:=(by simpa using h);omega
  refine aP ?_;refine ak ?_;refine cN ?_;refine wM xs.length (λi:Nat=>[(5,iv i)]) (λ_=>_) (λi=>xs.take i=ys.take i) (by simp) (λcm dF i cw hi R hR=> ?_);refine ak ?_;refine aC ?_;refine⟨λh2=> ?_,λh2=> ?_⟩
  ·have hlt:i<xs.length:=(by omega);obtain⟨x,Cq⟩:=cG hlt;obtain⟨y,gn⟩:=cG (xs:=ys) (i:=i) (by omega);refine aP ?_;refine cN ?_;refine eS 8 ?_;simp only[seval,h_ Cq,h_ gn,jQ hlt,jQ (eU gn)];refine aC ?_;refine⟨λh3=> ?_,λh3=> ?_⟩
   ·have h3:xs≠ys:=λe=>(by subst e;rw[Cq]at gn;cases gn;simp at h3);refine ak ?_;refine a_ ?_;rw[decide_eq_false h3]at hk;exact bY hk
   ·have h3:x=y:=(by simpa using h3);refine aP ?_;refine ak ?_;refine hR _ ⟨hlt,aqr Cq gn hi h3, ?_⟩;rw[bD _ (by omega)];exact dR
  ·have sK:i=xs.length:=(by omega);refine cq ?_;refine ak ?_;refine a_ ?_;have h3:xs=ys:=by
    rw[sK,TE]at hi;rw[hi,h,TE]
   rw[decide_eq_true h3]at hk;exact bY hk
end
def dZ (x:ai)(deep:Int)(D:Kn):Prop:=∃(p:Nat)(js:List Nat),x.am=p/\js.Perm (SX (p+1))/\m9 x deep js D/\bP D
theorem ky(x:ai):∀a∈x.l,a.leaf=true:=λa ha=>by
 simp only[ai.l,SK,SU,or_false]at ha;rcases ha with rfl|rfl|rfl|rfl|rfl|rfl<;>rfl
section
variable {H:List aa}{k kp:AV->List aa->Prop}
theorem HJ{lv:Bool}:Nm lv H (.fn (.func 52) [] []) true:=λL k kp hk=>bT (ahq hk)
theorem ahb{x:ai}(hx:x.Ok)(hm:H[0]?=some .main)(hk:∀D,dZ x 0 D->k (.aK [iv (if D.has then(D.aH.length:Int)else 0),iv 0]) H):bi true SD 21 H [x.av] k kp:=by
 refine bI (rs:=[.tmp 2, .tmp 3]) (nt:=19) Tryz.f21 λhH hA=> ?_;simp only[bp,SS,ai.av];have hp:=hx.am;obtain⟨p,dq⟩:∃p:Nat,x.am=p:=⟨x.am.toNat,by omega⟩;have bQ:x.l=[iv x.first,iv x.hours,iv x.am,ej x.seen,bk x.pieces,bk x.aB]:=rfl;have aT:∀(L:List aa),(H++L)[H.length]?=L[0]?:=λL=>aS H L 0;have br:x.l.length=6:=rfl;have eJ:T_ 6 x.l=x.l:=rfl;refine ak ?_;refine aj ?_;simp only[seval,aT,br,eJ];refine aL ((lC (x:=x) hx dq (ey hm) HJ (λh=>by cases h) λ_ js D L mp dp dL bA jX hg=> ?_));have eM:dZ x 0 D:=⟨p,js,dq,dp,dL,bA⟩;have bU:=Kn.len bA mp;have eB:=kv D mp;obtain⟨B,hB⟩:∃B,B=H++[aa.cells x.l 26]++L:=⟨_,rfl⟩;rw[<- hB]at hg⊢;(try simp only[seval,ai.av,br,bU]);refine⟨ky x,eB, ?_⟩;have fj:∀(L':List aa)(n:Int),k (.aK [iv n,iv 0]) H->cy H.length (B++L') (.aK [iv n,iv 0]) k:=λL' n h=>by
  rw[hB,SC,SC];exact je hH (Wk.refl _) (by simp[iV,eK]) h
 have oo:∀(L':List aa),(B++L')[B.length+1]?=L'[1]?:=λL'=>aS B L' 1;have rh:∀(L':List aa),(B++L')[mp]?=some (.obj (.map (D.aH.zipIdx.map dN).toArray D.aH.length)):=λL'=>ey hg;have cZ:(D.l mp).drop 1= .mp mp::((D.l mp).drop 2):=rfl;have aI:=hk D eM;cases hh:D.has with
 |false=>
  have hE:eX D=11:=by rw[eX,hh];rfl
  rw[hh]at aI;refine aj ?_;simp only[seval,hE,show ((11:Int)==11)=true from rfl];refine aC ?_;refine ak ?_;refine a_ ?_;exact fj _ 0 aI
 |true=>
  have hE:eX D=0:=by rw[eX,hh];rfl
  rw[hh]at aI;refine aj ?_;simp only[seval,hE,show ((0:Int)==11)=false from rfl];refine aC ?_;refine aP ?_;refine aj ?_;simp only[seval,oo,cZ,rh];have aW:(D.aH.zipIdx.map dN).toArray.size=D.aH.length:=by simp
  rw[adr _ _ _ _ _ F.Np (rh _),aW];refine a_ ?_;exact fj _ _ aI
end
namespace Tk
def vM (some other:Bool):Int:=if some&&other then 3 else if some then 1 else 2
end Tk
open Go.Conc Go.Proofs Go.Gg.Tk
section
variable {lv:Bool}{H:List aa}{k kp:AV->List aa->Prop}
theorem ahv{D:Kn}{mp s q:Nat}(hD:bP D)(hs:s<3)(hq:q<4)(hk:k (iv (vM ((D.aV.getD s 0).testBit q) (D.aV.getD s 0!=2^q))) H):bi lv SD 60 H [.agg (D.l mp), .c_ 97 (.agg [iv s,iv q])] k kp:=by
 refine bI (rs:=[.tmp 4]) (nt:=65) Tryz.f60 λhH hA=> ?_;simp only[bp,SS];have bU:=Kn.len hD mp;obtain⟨u,hu⟩:=cG (xs:=D.aV) (i:=s) (by rw[hD.aV];exact hs);have lP:D.aV.getD s 0=u:=by rw[SF,hu];rfl
 rw[lP]at hk;have lu:=hD.lU _ (S_ hu);have b3:(0<=(s:Int)/\(s:Int)<3)=True:=by simp;omega
 have aT:∀(L:List aa),(H++L)[H.length]?=L[0]?:=λL=>aS H L 0;have cZ:∀(L:List aa),(H++L)[H.length+1]?=L[1]?:=λL=>aS H L 1;have BT:=Kn.CW hD (mp:=mp) hu;refine ak ?_;refine ak ?_;refine ak ?_;refine aj ?_;simp only[seval,F.akV];refine aC ?_;refine aj ?_;simp only[seval,F.R9];refine aC ?_;refine ak ?_;refine eS 18 ?_;simp only[seval,aT,cZ,b3,BT];refine iH (bv (u.testBit q)) (bT (w5 lu ⟨rfl,rfl⟩)) ?_;refine iH (wv (2^q)) (bT (tR (m:=0) (by decide) (show q<16 by omega) ⟨by rw[Nat.zero_or],rfl⟩)) ?_;have aE:((u:Int)!=((2^q:Nat):Int))=(u !=2^q):=by
  rw[UL,bne_iff_ne,bne_iff_ne];exact not_congr Int.ofNat_inj
 rw[show wv u=AV.val (.int .u16 (u:Int))from rfl,show wv (2^q)=AV.val (.int .u16 ((2^q:Nat):Int))from rfl,Nz,aE];have fin:∀(L:List aa)(n:Int),vM (u.testBit q) (u !=2^q)=n->cy H.length (H++L) (iv n) k:=λL n h=>by rw[h]at hk;exact lB hH hk
 generalize u.testBit q=s1 at fin⊢;generalize(u !=2^q)=s2 at fin⊢;cases s1<;>cases s2
 all_goals
  refine ak ?_;refine cN ?_;refine cN ?_;refine cN ?_;refine ak ?_;refine aC ?_
 ·refine aP ?_;refine ak ?_;refine aC ?_;refine cq ?_;refine ak ?_;refine ak ?_;refine cq ?_;refine ak ?_;refine a_ ?_;exact fin _ 2 rfl
 ·refine aP ?_;refine ak ?_;refine aC ?_;refine cq ?_;refine ak ?_;refine ak ?_;refine cq ?_;refine ak ?_;refine a_ ?_;exact fin _ 2 rfl
 ·refine aP ?_;refine ak ?_;refine aC ?_;refine aP ?_;refine cq ?_;refine ak ?_;refine cq ?_;refine ak ?_;refine a_ ?_;exact fin _ 1 rfl
 ·refine cq ?_;refine ak ?_;refine ak ?_;refine ak ?_;refine cq ?_;refine ak ?_;refine a_ ?_;exact fin _ 3 rfl
theorem anB{x:ai}{q:Nat}(hq:q<x.pieces.length):mv x [(q:Int)]=true:=by
 unfold mv;simp;omega
theorem ahu{x:ai}{s q ir ip is:Nat}(hx:x.Ok)(hs:s<x.aB.length)(hq:q<x.pieces.length)(hr:H[ir]?=some (.cells x.l 26))(h1:H[ip]?=some (.cells [iv q] 3))(h2:H[is]?=some (.cells [iv s] 3))(hk:k (bv true) H):bi lv SD 57 H [.op ir 0, .op ip 0, .op is 0] k kp:=by
 refine bI (rs:=[.tmp 3]) (nt:=18) Tryz.f57 λhH hA=> ?_;simp only[bp,SS];have bQ:x.l=[iv x.first,iv x.hours,iv x.am,ej x.seen,bk x.pieces,bk x.aB]:=rfl;have br:x.l.length=6:=rfl;have eJ:T_ 6 x.l=x.l:=rfl;have aQ:=hx.fD;have aT:∀(L:List aa),(H++L)[H.length]?=L[0]?:=λL=>aS H L 0;have cZ:∀(L:List aa),(H++L)[H.length+1]?=L[1]?:=λL=>aS H L 1;have ay:=anB hq;have hw:SE.wrap ((x.aB.length:Int)-1)=(x.aB.length:Int)-1:=bD _ (by omega);have cw:(decide ((s:Int)<0)||decide ((s:Int)>(x.aB.length:Int)-1))=false:=by simp;omega
 refine ak ?_;refine aj ?_;simp only[seval,z1,hr,h1,br,eJ];(try refine⟨by decide, ?_⟩);refine aL ((oc (x:=x) (ns:=[(q:Int)]) (e:= .exact) ?_));(try simp only[seval]);refine aL ((od (x:=x) (ns:=[(q:Int)]) (e:= .exact) hx (by simp) (by rw[cZ];rfl) (by rw[aT];rfl) ?_));(try simp only[seval,ay,ey hr,ey h2,bQ,bk,hw]);refine aL ((qS ?_));(try simp only[seval,cw]);refine a_ ?_;exact lB hH hk
theorem ahg{x:ai}{s q:Nat}(hx:x.Ok)(hs:s<x.aB.length)(hq:q<x.pieces.length)(hm:H[0]?=some .main)(hk:∀D,dZ x 2 D->k (.aK [iv (if D.has then vM ((D.aV.getD s 0).testBit q) (D.aV.getD s 0!=2^q)else 0),iv (eX D)]) H):bi true SD 28 H [x.av,iv s,iv q] k kp:=by
 refine bI (rs:=[.tmp 6, .tmp 7]) (nt:=27) Tryz.f28 λhH hA=> ?_;simp only[bp,SS,ai.av];have hp:=hx.am;obtain⟨p,dq⟩:∃p:Nat,x.am=p:=⟨x.am.toNat,by omega⟩;have aT:∀(L:List aa),(H++L)[H.length]?=L[0]?:=λL=>aS H L 0;have cZ:∀(L:List aa),(H++L)[H.length+1]?=L[1]?:=λL=>aS H L 1;have iB:∀(L:List aa),(H++L)[H.length+2]?=L[2]?:=λL=>aS H L 2;have br:x.l.length=6:=rfl;have eJ:T_ 6 x.l=x.l:=rfl;refine ak ?_;refine aj ?_;simp only[seval,aT,br,eJ,TS,Um,T5,TD];refine aL ((lC (x:=x) (b:=true) hx dq (ey hm) (λL k kp hk=>bT (ahu hx hs hq (by rw[SC,aT];rfl) (by rw[SC,iB];rfl) (by rw[SC,cZ];rfl) hk)) (λh=>by cases h) λ_ js D L mp dp dL bA jX hg=> ?_));have eM:dZ x 2 D:=⟨p,js,dq,dp,dL,bA⟩;have bU:=Kn.len bA mp;have eB:=kv D mp;obtain⟨Y,hY⟩:∃Y:List aa,Y=[aa.cells x.l 26, .cells [iv s] 3, .cells [iv q] 3]++L:=⟨_,rfl⟩;obtain⟨B,hB⟩:∃B,B=H++Y:=⟨_,rfl⟩;have dE:H++[aa.cells x.l 26, .cells [iv s] 3, .cells [iv q] 3]++L=B:=by rw[hB,hY,SC]
 have oo:∀(L':List aa),(B++L')[B.length+1]?=L'[1]?:=λL'=>aS B L' 1;have hbs:∀(L':List aa),(B++L')[H.length+1]?=some (.cells [iv s] 3):=λL'=>by rw[hB,hY,SC,cZ];rfl
 have hbq:∀(L':List aa),(B++L')[H.length+2]?=some (.cells [iv q] 3):=λL'=>by rw[hB,hY,SC,iB];rfl
 have aI:=hk D eM;have fj:∀(L':List aa)(n m:Int),k (.aK [iv n,iv m]) H->cy H.length (B++L') (.aK [iv n,iv m]) k:=λL' n m h=>by
  rw[hB,SC];exact je hH (Wk.refl _) (by simp[iV,eK]) h
 rw[dE];clear dE hg hB;(try simp only[seval,ai.av,br,bU]);refine⟨ky x,eB, ?_⟩;cases hh:D.has with
 |false=>
  have hE:eX D=11:=by rw[eX,hh];rfl
  rw[hE,hh]at aI;refine aj ?_;simp only[seval,hE,show ((11:Int)!=0)=true from rfl];refine aC ?_;refine ak ?_;refine a_ ?_;exact fj _ 0 11 aI
 |true=>
  have hE:eX D=0:=by rw[eX,hh];rfl
  rw[hE,hh]at aI;refine aj ?_;simp only[seval,hE,show ((0:Int)!=0)=false from rfl];refine aC ?_;refine aP ?_;refine aj ?_;simp only[seval,F.R9,oo,hbs,hbq,bU];rw[SW (i:=28) (by rw[bU];exact SO _)];refine aL ((ahv (s:=s) (q:=q) bA (by have:=hx.fD;omega) (by have:=hx.dI;omega) ?_));(try simp only[seval]);refine a_ ?_;exact fj _ _ 0 aI
end
theorem z2:gU (SG .i64 0) 2=[iv 0,iv 0]:=rfl
section
variable {H:List aa}{k kp:AV->List aa->Prop}
end
namespace Tk
structure fu where
 lo:Int
 hi:Int
 is:Bool
def fu.add (b:fu)(v:Int):fu:=if b.is then⟨min b.lo v,max b.hi v,true⟩else⟨v,v,true⟩
end Tk
def Tk.fu.l (b:fu):List AV:=[iv b.lo,iv b.hi,bv b.is]
section
variable {lv:Bool}{H:List aa}{k kp:AV->List aa->Prop}
theorem Pc{b:fu}{v:Int}{i:Nat}(hi:H[i]?=some (.cells b.l 112))(hk:k (.aK []) (H.set i (.cells (b.add v).l 112))):bi lv SD 74 H [.op i 0,iv v] k kp:=by
 refine bI (rs:=[]) (nt:=38) Tryz.f74 λhH hA=> ?_;simp only[bp,SS];have bE:=eU hi;obtain⟨hp,db⟩:∃hp:List AV->List aa,∀l,hp l=H.set i (.cells l 112):=⟨_,λ_=>rfl⟩;have h0:H=hp b.l:=by rw[db];exact(qw hi).symm
 have hg:∀l,(hp l)[i]?=some (.cells l 112):=λl=>by rw[db,UD,if_pos rfl,if_pos bE]
 have hs:∀l l',(hp l).set i (.cells l' 112)=hp l':=λl l'=>by rw[db,db,Wu]
 have fin:∀(N:Nat)(l:List AV),l=(b.add v).l->cy N (hp l) (.aK []) k:=λN l e=>by
  rw[e,db];exact bY hk
 rw[h0];clear hH hA db h0 hi hk;refine aj ?_;simp only[seval,hg,fu.l];refine aC ?_;refine⟨λh=> ?_,λh=> ?_⟩
 ·have hb:b.is=false:=by simpa using h
  refine aj ?_;simp(maxSteps:=4000000) only[seval,hg,hs];refine qM [16,19] [0,1,2,3,4,5,6,7,8,9,10,11,12,13,14,15,16,17,18,19] [⟨0,false,[],[]⟩,⟨1,false,[],[([16],[16])]⟩,⟨2,false,[],[]⟩,⟨3,false,[],[]⟩,⟨4,false,[],[]⟩,⟨5,false,[],[]⟩,⟨6,false,[],[]⟩,⟨7,false,[],[]⟩,⟨8,false,[],[]⟩,⟨9,false,[],[]⟩,⟨10,false,[],[]⟩,⟨11,false,[],[]⟩,⟨12,false,[],[([16],[16])]⟩,⟨13,false,[],[([16],[16])]⟩,⟨14,false,[],[]⟩,⟨15,false,[],[]⟩,⟨16,true,[16],[]⟩,⟨17,false,[16],[]⟩,⟨18,false,[16],[]⟩,⟨19,true,[16,19],[]⟩] (λD=>bif isDone 19 D then hp [iv (min v v),iv (max v v),bv true]else bif isDone 16 D then hp [iv (min v v),iv v,bv true]else hp [iv v,iv v,bv true]) ?_;simp only[seval,hg,hs];have m1:(if v<v then v else v)=v:=by split<;>rfl
  have m2:min v v=v:=by omega
  have m3:max v v=v:=by omega
  rw[m1,m2,m3];exact⟨rfl,rfl,fin _ _ (by rw[fu.add,if_neg (by rw[hb];decide)];rfl)⟩
 ·have hb:b.is=true:=by simpa using h
  refine aP ?_;refine qM [16,19] [0,1,2,3,4,5,6,7,8,9,10,11,12,13,14,15,16,17,18,19] [⟨0,false,[],[]⟩,⟨1,false,[],[([16],[16])]⟩,⟨2,false,[],[]⟩,⟨3,false,[],[]⟩,⟨4,false,[],[]⟩,⟨5,false,[],[]⟩,⟨6,false,[],[]⟩,⟨7,false,[],[]⟩,⟨8,false,[],[]⟩,⟨9,false,[],[]⟩,⟨10,false,[],[]⟩,⟨11,false,[],[]⟩,⟨12,false,[],[([16],[16])]⟩,⟨13,false,[],[([16],[16])]⟩,⟨14,false,[],[]⟩,⟨15,false,[],[]⟩,⟨16,true,[16],[]⟩,⟨17,false,[16],[]⟩,⟨18,false,[16],[]⟩,⟨19,true,[16,19],[]⟩] (λD=>bif isDone 19 D then hp [iv (min b.lo v),iv (max b.hi v),bv b.is]else bif isDone 16 D then hp [iv (min b.lo v),iv b.hi,bv b.is]else hp [iv b.lo,iv b.hi,bv b.is]) ?_;simp only[seval,hg,hs];have m1:(if v<b.lo then v else b.lo)=min b.lo v:=by split<;>omega
  have m2:(if b.hi<v then v else b.hi)=max b.hi v:=by split<;>omega
  rw[m1,m2];exact⟨rfl,rfl,fin _ _ (by rw[fu.add,if_pos hb,hb];rfl)⟩
end
open Go.Conc Go.Proofs Go.Gg.Tk
namespace Tk
def u_ (hour:Nat)(hs:List (List Int)):fu:=hs.foldl (λb h=>b.add (h.getD hour 0)) ⟨0,0,false⟩
end Tk
section
variable {lv:Bool}{H:List aa}{k kp:AV->List aa->Prop}
theorem ahz{x:ai}{hour:Nat}{ih ir:Nat}(hh:(hour:Int)<=x.hours)(h1:H[ih]?=some (.cells [iv hour] 3))(hr:H[ir]?=some (.cells x.l 26))(hk:k (bv true) H):bi lv SD 73 H [.op ih 0, .op ir 0] k kp:=by
 refine bI (rs:=[.tmp 2]) (nt:=8) Tryz.f73 λhH hA=> ?_;simp only[bp,SS];have bQ:x.l=[iv x.first,iv x.hours,iv x.am,ej x.seen,bk x.pieces,bk x.aB]:=rfl;have cw:(decide ((hour:Int)<0)||decide ((hour:Int)>x.hours))=false:=by simp;omega
 refine ak ?_;refine aj ?_;simp only[seval,h1,hr,bQ];refine aL ((qS ?_));(try simp only[seval,cw]);refine a_ ?_;exact bY hk
theorem ahm{x:ai}{hour:Nat}(hx:x.Ok)(hh:(hour:Int)<=x.hours)(hm:H[0]?=some .main)(hk:∀D,dZ x 0 D->(D.has=false->k (.aK [.agg [iv 0,iv 0],iv 11]) H)/\(D.has=true->∀hs:List (List Int),hs.Perm D.aH->k (.aK [.agg [iv (u_ hour hs).lo,iv (u_ hour hs).hi],iv 0]) H)):bi true SD 36 H [x.av,iv hour] k kp:=by
 refine bI (rs:=[.cell 4 46, .tmp 5]) (nt:=41) Tryz.f36 λhH hA=> ?_;simp only[bp,SS,ai.av];have hp:=hx.am;have zd:=hx.hours;obtain⟨p,dq⟩:∃p:Nat,x.am=p:=⟨x.am.toNat,by omega⟩;have aT:∀(L:List aa),(H++L)[H.length]?=L[0]?:=λL=>aS H L 0;have cZ:∀(L:List aa),(H++L)[H.length+1]?=L[1]?:=λL=>aS H L 1;have iB:∀(L:List aa),(H++L)[H.length+2]?=L[2]?:=λL=>aS H L 2;have fA:∀(L:List aa)(y:aa),(H++L).set (H.length+2) y=H++L.set 2 y:=λL y=>de H L 2 y;have br:x.l.length=6:=rfl;have eJ:T_ 6 x.l=x.l:=rfl;refine ak ?_;refine aj ?_;simp only[seval,aT,br,eJ,TS,Um,T5,TD];refine aL ((lC (x:=x) (b:=true) hx dq (ey hm) (λL k kp hk=>bT (ahz hh (by rw[SC,cZ];rfl) (by rw[SC,aT];rfl) hk)) (λh=>by cases h) λ_ js D L mp dp dL bA jX hg=> ?_));have eM:dZ x 0 D:=⟨p,js,dq,dp,dL,bA⟩;have bU:=Kn.len bA mp;have eB:=kv D mp;obtain⟨gZ,cx⟩:=hk D eM;obtain⟨Bf,aN⟩:∃Bf:List AV->List aa,∀l,Bf l=H++([aa.cells x.l 26, .cells [iv hour] 3, .cells l 46]++L):=⟨_,λ_=>rfl⟩;have dE:H++[aa.cells x.l 26, .cells [iv hour] 3, .cells [iv 0,iv 0] 46]++L=Bf [iv 0,iv 0]:=by rw[aN,SC]
 obtain⟨N,hN⟩:∃N,N=H.length+3+L.length:=⟨_,rfl⟩;have ba:∀l,(Bf l).length=N:=λl=>by rw[aN,hN];simp;omega
 have b1:∀l (L':List aa),(Bf l++L')[H.length+1]?=some (.cells [iv hour] 3):=λl L'=>by rw[aN,SC,cZ];rfl
 have b2:∀l (L':List aa),(Bf l++L')[H.length+2]?=some (.cells l 46):=λl L'=>by rw[aN,SC,iB];rfl
 have oW:∀l l' (L':List aa),(Bf l++L').set (H.length+2) (.cells l' 46)=Bf l'++L':=λl l' L'=>by rw[aN,SC,fA,aN];simp
 have bn:∀l (L':List aa)(j:Nat),(Bf l++L')[N+j]?=L'[j]?:=λl L' j=>by rw[<- ba l,aS]
 have dJ:∀l (L':List aa)(j:Nat)(y:aa),(Bf l++L').set (N+j) y=Bf l++L'.set j y:=λl L' j y=>by rw[<- ba l,de]
 rw[dE]at hg⊢;have fj:∀(l:List AV)(L':List aa)(a b:Int)(m:Int),k (.aK [.agg [iv a,iv b],iv m]) H->cy H.length (Bf l++L') (.aK [.agg [iv a,iv b],iv m]) k:=λl L' a b m h=>by
  rw[aN,SC];exact je hH (Wk.refl _) (by simp[iV,eK,qp]) h
 (try simp only[seval,ai.av,br,bU,ba]);refine⟨ky x,eB, ?_⟩;cases gD:D.has with
 |false=>
  have hE:eX D=11:=by rw[eX,gD];rfl
  refine aj ?_;simp only[seval,hE,show ((11:Int)!=0)=true from rfl];refine aC ?_;refine aj ?_;simp only[seval,b2,oW];refine mI ?_;simp only[seval,b2];exact fj _ _ 0 0 11 (gZ gD)
 |true=>
  have hE:eX D=0:=by rw[eX,gD];rfl
  refine aj ?_;simp only[seval,hE,show ((0:Int)!=0)=false from rfl];refine aC ?_;refine aP ?_;refine aj ?_;simp only[seval,ba];refine aj ?_;simp only[seval,TS,Um,T5,TD];have nC:(D.l mp).drop 1= .mp mp::((D.l mp).drop 2):=rfl;obtain⟨ts,di⟩:∃ts,ts=D.aH.zipIdx:=⟨_,rfl⟩;obtain⟨ck,y9⟩:∃ck,ck=D.aH.length:=⟨_,rfl⟩;have rh:∀l (L':List aa),(Bf l++L')[mp]?=some (.obj (.map (ts.map dN).toArray ck)):=λl L'=>by
   have h0:(Bf [iv 0,iv 0])[mp]?=some (setH D.aH):=hg;have aE:mp≠H.length+2:=λe=>by
    have:=b2 [iv 0,iv 0] [];rw[SI,<- e,h0]at this;cases this
   have h1:(Bf l)[mp]?=some (setH D.aH):=by
    have:=oW [iv 0,iv 0] l [];rw[SI,SI]at this;rw[<- this,TP (λe=>aE e.symm)];exact h0
   rw[di,y9];exact ey h1
  have nz:∀y∈ts,y.2<ck:=λy hy=>by rw[di]at hy;have:=List.snd_lt_add_of_mem_zipIdx hy;omega
  have vP:(ts.map (·.2)).Nodup:=by rw[di,show (λy:List Int×Nat=>y.2)=Prod.snd from rfl,List.zipIdx_map_snd];exact List.nodup_range'
  have h4:∀y∈ts,y.1.length=4:=λy hy=>by rw[di]at hy;exact bA.h4 _ (Aq hy)
  have fO:=HV ts ck nz;have zD:ts.map (·.1)=D.aH:=by rw[di,show (λy:List Int×Nat=>y.1)=Prod.fst from rfl,List.zipIdx_map_fst]
  clear di;refine aj ?_;simp only[seval,ba,bn,nC,rh];obtain⟨dU,db⟩:∃dU:fu->Array Nat->List aa,∀b sn,dU b sn=Bf [iv 0,iv 0]++[.cells x.l 76, .cells (D.l mp) 88, .cells b.l 112, .iter mp ck sn ck]:=⟨_,λ_ _=>rfl⟩;have p1:∀b sn (L':List aa),(dU b sn++L')[H.length+1]?=some (.cells [iv hour] 3):=λb sn L'=>by rw[db,SC];exact b1 _ _
  have p2:∀b sn (L':List aa),(dU b sn++L')[N+2]?=some (.cells b.l 112):=λb sn L'=>by rw[db,SC,bn];rfl
  have p3:∀b sn (L':List aa),(dU b sn++L')[N+3]?=some (.iter mp ck sn ck):=λb sn L'=>by rw[db,SC,bn];rfl
  have CU:∀b sn,(dU b sn)[N+3]?=some (.iter mp ck sn ck):=λb sn=>by have:=p3 b sn [];rwa [SI]at this
  have p4:∀b sn (L':List aa),(dU b sn++L')[N+4]?=L'[0]?:=λb sn L'=>by rw[db,SC,bn];rfl
  have pm:∀b sn (L':List aa),(dU b sn++L')[mp]?=some (.obj (.map (ts.map dN).toArray ck)):=λb sn L'=>by rw[db,SC];exact rh _ _
  have xU:∀b sn,(dU b sn)[mp]?=some (.obj (.map (ts.map dN).toArray ck)):=λb sn=>by have:=pm b sn [];rwa [SI]at this
  have s2:∀b sn b' (L':List aa),(dU b sn++L').set (N+2) (.cells (fu.l b') 112)=dU b' sn++L':=λb sn b' L'=>by rw[db,SC,dJ,db,SC];rfl
  have s3:∀b sn x8,(dU b sn).set (N+3) (.iter mp ck x8 ck)=dU b x8:=λb sn x8=>by rw[db,dJ,db];rfl
  have pl:∀b sn,(dU b sn).length=N+4:=λb sn=>by rw[db];simp[ba]
  have aQ:Bf [AV.val (SG SE 0),AV.val (SG SE 0)]++[.cells x.l 76, .cells (D.l mp) 88, .cells [AV.val (SG SE 0),AV.val (SG SE 0),AV.val (WB false)] 112, .iter mp ck #[] ck]=dU ⟨0,0,false⟩ #[]:=by rw[db];rfl
  rw[aQ];have ox:hour<4:=by omega
  have b4:(0<=(hour:Int)/\(hour:Int)<4)=True:=by simp;omega
  have My:∀b sn l,(dU b sn).set (H.length+2) (.cells l 46)=Bf l++[.cells x.l 76, .cells (D.l mp) 88, .cells b.l 112, .iter mp ck sn ck]:=λb sn l=>by rw[db,oW]
  have LY:∀b sn,(dU b sn)[H.length+2]?=some (.cells [iv 0,iv 0] 46):=λb sn=>by rw[db,b2]
  have LW:∀b sn,(dU b sn)[N+2]?=some (.cells (fu.l b) 112):=λb sn=>by have:=p2 b sn [];rwa [SI]at this
  refine cN ?_;refine wN (measure λvs:List (List Int×Nat)=>ts.length-vs.length).wf (λvs=>[]) (λvs=>dU (u_ hour (vs.map (·.1))) (vs.map (·.2)).toArray) (λvs=>(vs.map (·.2)).Nodup/\∀y∈vs,y∈ts) [] (λ_ _=>rfl) (by simp) rfl (λ_ _=>by simp[pl]) ⟨by simp,by simp⟩ (λcm dF vs ay R hR=> ?_);refine aj ?_;simp only[seval,CU,xU,s3];refine⟨fO.elim .inl (λh=> .inr (.inl h)),λe he hn=> ?_,λhs=> ?_⟩
  ·obtain⟨y,hy,rfl⟩:∃y∈ts,dN y=e:=(by simpa using he);refine aC ?_;refine aP ?_;refine cN ?_;have oZ:=h4 y hy;have BL:(dN y).born=y.2:=rfl;have hlen:(y.1.map iv).length=4:=(by simp[oZ]);have BS:Ud 4 [AV.val (SG SE 0),AV.val (SG SE 0),AV.val (SG SE 0),AV.val (SG SE 0)]=[]:=rfl;obtain⟨w,hw⟩:=cG (xs:=y.1) (i:=hour) (by omega);have Co:y.1.getD hour 0=w:=(by rw[SF,hw];rfl);have Ct:y.2∉vs.map (·.2):=(by simpa[dN]using hn);have zq:((vs.map (·.2)).toArray.push y.2)=((vs++[y]).map (·.2)).toArray:=(by simp);have Jv:(u_ hour (vs.map (·.1))).add w=u_ hour ((vs++[y]).map (·.1)):=by
    unfold u_;rw[Tv,Xj];show _=fu.add _ (y.1.getD hour 0);rw[Co]
   have oB:((vs++[y]).map (·.2)).Nodup/\∀z∈vs++[y],z∈ts:=by
    refine⟨?_,λz hz=> ?_⟩
    ·rw[Tv,UC];refine⟨ay.1,by simp,λa ha b hb=> ?_⟩;simp at hb;subst hb;intro e;subst e;exact Ct ha
    ·rcases SN.1 hz with h|h
     ·exact ay.2 z h
     ·rw[S5.1 h];exact hy
   have ajK:vs.length<ts.length:=by
    have h1:(vs++[y]).Nodup:=zM _ oB.1;have:=h1.length_le_of_subset oB.2;simp at this;omega
   have pn:ts.length-(vs++[y]).length<ts.length-vs.length:=(by simp;omega);have zm:∀b sn,bL (dU b sn):=λb sn z hz=>by
    have Ev:bL (dU ⟨0,0,false⟩ #[]):=cm;rw[pl];rw[db]at hz;have cw:∀z,z∈dU ⟨0,0,false⟩ #[]->eR (N+4) z:=λz hz=>by
     have:=Ev z hz;rwa [pl]at this
    rcases SN.1 hz with h|h
    ·exact cw z (by rw[db];exact Tb _ h)
    ·simp only[SK,SU,or_false]at h;rcases h with rfl|rfl|rfl|rfl
     ·exact cw _ (by rw[db];simp)
     ·exact cw _ (by rw[db];simp)
     ·intro a ha;simp only[fu.l,SK,SU,or_false]at ha;rcases ha with rfl|rfl|rfl<;>exact .val _
     ·show mp<N+4;have:=eU (xU ⟨0,0,false⟩ #[]);rwa [pl]at this
   refine aj ?_;simp only[seval,CU,xU,s3,pl,p4,BL,Array.back?_push,IQ vP hy,LO,oZ,hlen,BS];refine aj ?_;simp only[seval,p1,p4,b4,j7 hw];refine aL ((Pc (b:=u_ hour (vs.map (·.1))) (v:=w) (i:=N+2) (p2 _ _ _) ?_));rw[s2,Jv,zq];(try simp only[seval]);refine hR _ ⟨vs++[y],pn,oB, ?_⟩;exact Mv (oE rfl rfl) (by simp only[seval]<;>simp[bB,Wk.refl]) (zm _ _) (by simp[eK])
  ·have me:vs.Perm ts:=MA ay.1 vP ay.2 λy hy=>by
    have:=hs (dN y) (by simp;exact⟨y.1,y.2,hy,rfl⟩) (nz y hy);simpa[dN]using this
   have Cc:(vs.map (·.1)).Perm D.aH:=by
    have:=me.map (·.1);rw[zD]at this;exact this
   have aI:=cx gD _ Cc;generalize yZ:u_ hour (vs.map (·.1))=bv' at aI;refine aC ?_;refine cq ?_;refine aj ?_;simp only[seval,LW,LY,My,fu.l,yZ];refine mI ?_;simp only[seval,b2];exact fj _ _ _ _ 0 aI
end
end Go.Gg
