/- A part of the proof. -/
import Derived.Test.YtkanpclgnhdbiaaGreatDoorTicketFirstCard2
import Derived.Conc.CrowdStepC
import Derived.Conc.LeavingOf
import Derived.Conc.AtomicLaws
import Derived.Conc.AtomicLaws2
import Derived.Conc.MarkLaws
import Derived.Conc.SmallLaws
import Derived.Laws.LoneSync
import Derived.KernelRfl
import Derived.Test.YtkanpclgnhdbiaaGreatDoorProg
import Derived.Conc.TokenWalk
set_option linter.all false
set_option maxRecDepth 4000
set_option maxHeartbeats 4000000
open Array renaming all_eq_true_iff_forall_mem->UQ,append_assoc->Xv,empty_append->Xu,ext'->VH,getD_eq_getD_getElem?->SH,getElem?_eq_getElem->SJ,getElem?_eq_some_iff->SR,getElem?_push->Xl,getElem?_setIfInBounds->Ws,getElem?_setIfInBounds_ne->SW,getElem?_setIfInBounds_self_of_lt->Tb,getElem_mem->XX,isEmpty_empty->Y3,mem_iff_getElem?->YF,replicate->TP,size->ag2
open BitVec renaming ofInt->Ul
open Bool renaming and_eq_true->Tg,eq_iff_iff->Vh,false_or->ZD,not_eq_true'->T4,not_false->YE,not_true->ao',true_or->ak_
open Classical renaming byContradiction->Tv
open Eq renaming trans->VM
open Function renaming comp_def->Yy
open Go renaming Addr->Va,CallKind->Xj,Code->Ub,Deferred->U3,Event->Uu,Frame->Uf,FrameMode->Vg,Func->YD,FuncId->TS,GStep->ZL,Goroutine->SG,IntKind->T8,Item->WX,Machine->au',MemOp->Wi,Oper->Tx,Operand->Tj,Program->SI,ResultVar->UT,Trace->Up,Value->SQ,World->Tq,mark->ah',step->ah_
open Go.Conc renaming Deaf->U0,Deaf_other->avs,Good->W4,Knows->Wq,QuitsD->Y_,act?_of->aj',casT_eq->aa_,crowd_pick->Z6,deaf_succ->af_,finishComm_recv->Yx,finishComm_send->aj_,getElem?_stand->Yc,heard_old->Wu,knows_own->Zj,lt_size_of_getElem?->TN,mem_ofEvents->TQ,mem_of_getElem?->XW,offersAt_of_not_blocked->U2,offersAt_parked_send->ZN,offersAt_ph->Zt,runT_crowd_spawn->ae',seen_none->ae_,served->Ua,stepG_entry->ZM,stepG_same->Xi,stepG_value->avr,touch_of->U1,woken_run->Ym
open Go.Conc.QuitsD renaming status->ZO
open Go.ConcN renaming le_sumTo->WG,sumTo_congr->Vt
open Go.Event renaming mute->WK
open Go.Extern.Atomic renaming casT->WY,loadT->X6,storeT->XV,update->XU
open Go.Extern.Race renaming marked->VL,none_->Xa
open Go.Extern.Sync renaming semacquire->WJ,semrelease->XT
open Go.GStep renaming after->T_
open Go.Goroutine.mk renaming injEq->ai'
open Go.Instr renaming loadAt->XE,sureAddr->Vj
open Go.IntKind renaming i64->SD,u32->an_,u64->TD,wrap->Xh
open Go.MemAct renaming ofEvent->Tt
open Go.MemOp renaming ofEvents->Tc
open Go.Obj renaming deferred->avA
open Go.Op renaming intArith->avz
open Go.Operand renaming const->avy,tmp->avm
open Go.Proofs.Tryz renaming f77->XP,prog->SA
open Go.Region renaming wanted->Ti
open Go.Result renaming ok->Yi
open Go.Sem renaming runT_eq->TE
open Go.Trace renaming g?->WE
open Go.Value renaming bool->Xg,chan->XS,int->SF
open Go.World renaming cell?->UC,frozen?->Z1,setChan->Wl
open Int renaming toNat_natCast->VI
open List renaming any_cons->YU,any_eq_true->UO,append_assoc->SC,append_nil->SO,cons_append->Vp,drop->T5,drop_eq_nil_of_le->T7,eq_nil_of_length_eq_zero->UI,ext_getElem?->Yp,filter_append->ZR,findIdx?_eq_none_iff->Yf,findIdx?_eq_some_iff_getElem->Xx,flatMap_append->Un,foldl_append->Ya,foldl_cons->UY,forall_mem_cons->US,getD_eq_getElem?_getD->SE,getElem?_append_left->SY,getElem?_append_right->S_,getElem?_drop->Us,getElem?_eq_getElem->SX,getElem?_eq_none->Ux,getElem?_eq_some_iff->SN,getElem?_map->To,getElem?_range->XC,getElem?_set->UV,getElem?_set_ne->Uc,getElem?_toArray->Vm,getElem_mem->Ww,getLast?_eq_some_getLast->XR,getLastD_eq_getLast?->Vv,getLast_mem->Zw,head?_append->WS,length_append->SL,length_cons->Ui,length_filter_le->Y6,length_map->Ta,length_nil->UA,length_pos_iff->VW,length_range->ZY,length_singleton->TG,mapM_cons->Ue,mapM_nil->UH,mapM_toArray->X4,map_append->Tn,map_cons->U5,mem_append->SS,mem_append_left->Th,mem_append_right->S4,mem_cons->SK,mem_flatMap->S5,mem_iff_getElem?->UW,mem_map->Tm,mem_of_getElem?->S8,mem_range->TW,mem_replicate->XB,mem_singleton->S9,mem_toArray->TO,nil_append->UN,nodup_append->Vd,nodup_nil->WQ,nodup_range->X0,not_mem_nil->SZ,range->S0,range_succ->U4,replicate->TM,set_append_left->UX,set_cons_succ->UK,set_cons_zero->T9,set_set->Xc,take->Uh,take_add_one->Uq,take_append_of_le_length->TB,take_length->Tp,take_of_length_le->SV,take_succ_cons->VZ,take_succ_eq_append_getElem->Vs
open List.cons renaming inj->VB
open Nat renaming add_sub_cancel_left->TZ,add_zero->UJ,eq_zero_or_pos->UL,le_refl->SP,le_trans->TV,lt_of_lt_of_le->Te,lt_succ_self->Uz,reduceAdd->SU,reduceEqDiff->ZF
open Option renaming bind_eq_bind->TU,bind_eq_some_iff->Tf,getD_none->Vu,getD_some->S7,map_eq_some_iff->Ts,map_some->UU,pure_def->Um
open Option.some renaming inj->Wb,injEq->Tl
open Prod.mk renaming inj->W5,injEq->U8
namespace Go.Gg
open Go.Conc Go.ConcN
section
variable {P:SI}{n0:Nat}{W0:Tq}{V:View}{gs gs':Array SG}{w w':Tq}{sl:Option (Nat×Nat)}{t:Up}{K:Nat->GS}{Im:cE}{ic:Nat}{p:Phase}{st st':Option eB}
theorem PY{t:Up}{g i j:Nat}(hi:t.g? i=some g)(hj:t.g? j=some g)(h:i<=j):Before t i j:=by
 rcases Nat.eq_or_lt_of_le h with rfl|h
 ·exact .inl rfl
 ·obtain⟨a,ha,rfl⟩:=Ts.1 hi;obtain⟨b,hb,hg⟩:=Ts.1 hj;exact .inr (.single (.inl ⟨h,by simp[WE,ha,hb,hg]⟩))
theorem Inv.afC(h:Inv P n0 W0 V gs w t K Im ic (some p) st)(aI:p.recv=true){n:Nat}{gi:SG}(aN:gs[ic]?=some gi)(hK:K ic=.acq n)(jS:uE P Im p.c p.Wg (U0 t ic) gi):gH P n0 W0 V gs w sl t K Im ic (some p) st ic:=by
 obtain⟨s,hs,gA,iX,hm⟩:=h.mode aI;obtain⟨m1,m2,m3,m4,m5⟩:=hm.PE (.inr (by rw[hK];rfl));obtain⟨hd,bL,g',aP,n',cy⟩:=jS;have n4:∀e∈#[kA (.acquire (ej p.Wg))],e=kA (.acquire (ej p.Wg)):=λe he=>by simpa using he
 have aa0:g'.status=.running:=cV.running (λd g x=>x.2.1) cy;refine h.uw aI (k':=.look n') (s':=.got) gA aN (aP w) (by rw[hd];exact cy) (by rw[hK];exact HC Im) (λ_=>rfl) rfl (λj hj=>by rw[hK]at hj;cases hj) (.inl rfl) (λe he x hx=> ?_) (λe he=> ?_) (λe he a=> ?_) rfl (λ_ _ _=>rfl) rfl rfl rfl
  ?_ (.inl m1) ?_ (zk iX (by rw[hK];exact .inl (by simp[GS.dc])))
 ·rw[n4 e he]at hx;cases hx
 ·rw[n4 e he];exact h.low.2
 ·rw[n4 e he];simp[kA,Tt]
 ·unfold Mode;have e1:sumTo gs.size (λi=>(upd K ic (.look n') i).cnt)=0:=by rw[lQ K (.look n') GS.cnt (by rw[hK];rfl)];exact m4
  have e2:sumTo gs.size (λi=>(upd K ic (.look n') i).late)=0:=by rw[lQ K (.look n') GS.late (by rw[hK];rfl)];exact m3
  simp only[e1,e2,bA];exact .inr (.inr (.inr (.inr (.inr (.inl ⟨m1,trivial,trivial,trivial,.inl rfl⟩)))))
 ·have hr:Rest p.Wg t K ic st:=h.out.2.2.1;rw[hs,m2]at hr;rw[ofEvents_one];refine hr.app (λidx a ha hx=> .inr ?_) (λidx a _ ⟨op,ay,_,hx⟩ _=> ?_)
  ·obtain⟨i,LC,eZ,hx⟩:=hx;have alN:=h.core.ti.norel;have own:t.g? idx=some ic->Wq (t++#[{g:=ic,fn:=gi.frame.fn,pos:=gi.frame.place,act:=.ofEvent (kA (.acquire (ej p.Wg)))}]) ic idx:=λe=>by
    obtain⟨op,ho,pV⟩:=Ts.1 e;rw[<- pV];exact(Zj ho).app _
   rcases hx with hx|rfl|⟨r,sg,hle⟩
   ·exfalso;have aly:i<gs.size:=by
     obtain⟨op,ho,pV⟩:=Ts.1 LC;rw[<- pV];exact h.core.ti.gs op (XW ho)
    have gY:(K i).cnt=1:=by cases lz:K i<;>rw[lz]at hx<;>first|rfl|cases hx
    have hle:(K i).cnt<=sumTo gs.size λi=>(K i).cnt:=WG (f:=λi=>(K i).cnt) aly;omega
   ·exact own LC
   ·exact afD sg.act sg.heard alN ⟨rfl,rfl⟩ hd (PY LC sg.g hle)
  ·simp only[TO,SK,SZ,or_false]at ay;subst ay;cases hx
theorem Rest.got{Wg:Nat}(hr:Rest Wg t K ic (some .got)){es:Array Uu}{fn:TS}{pos:String}{K':Nat->GS}:Rest Wg (t++Tc ic fn pos es) K' ic (some .got):=by
 refine hr.app (λidx a ha hx=> .inr (Knows.app _ hx)) (λidx a _ ⟨op,ay,da,_⟩ _=> .inr (.inr ?_));obtain⟨e,_,rfl⟩:=TQ ay;exact Zj da
theorem Inv.an0(h:Inv P n0 W0 V gs w t K Im ic (some p) st)(aI:p.recv=true){n:Nat}{gi:SG}(aN:gs[ic]?=some gi)(hK:K ic=.look n)(jS:IZ P Im p.c (U0 t ic) gi):gH P n0 W0 V gs w sl t K Im ic (some p) st ic:=by
 obtain⟨s,hs,gA,iX,hm⟩:=h.mode aI;obtain⟨m1,m2,m3,m4⟩:=hm.PF (.inl (by rw[hK];rfl));obtain⟨hd,bL,b,o,x,g',l6,aP,n',cy⟩:=jS;have fE:Sat ((K ic).view Im) w:=by have:=h.core.sat ic iX;rwa [show bH V Im K ic=(K ic).view Im by simp[bH];omega]at this
 have Lf:=fE.ab b o x (by rw[hK];exact l6);have hb:=fE.D3 (show ((K ic).view Im).ab b o=some x by rw[hK];exact l6);have n4:∀e∈(#[⟨.cell ⟨b,o,none⟩,false,false⟩]:Array Uu),e=⟨.cell ⟨b,o,none⟩,false,false⟩:=λe he=>by simpa using he
 have cR:=h.blind gA;refine h.uw aI (k':=.close n') (s':=.got) gA aN (aP w Lf) (by rw[hd];exact cy) (by rw[hK];exact anL Im) (λ_=>rfl) rfl (λj hj=>by rw[hK]at hj;cases hj) (.inl rfl) (λe he y hy=> .inr (.inr ?_)) (λe he=> ?_) (λe he a=> ?_) rfl (λ_ _ _=>rfl) rfl rfl rfl
  ?_ (.inl m1) ?_ (zk iX (by rw[hK];exact .inl (by simp[GS.dc])))
 ·rw[n4 e he]at hy;cases hy;refine⟨λdl=> ?_,.inr (by rw[hK];show Im b o≠none;rw[l6];simp),rfl⟩;have e1:b=p.Wg:=dl;have:=cR.2.2.2 o;rw[hK]at this;have e2:Im p.Wg o=none:=this;rw[<- e1,l6]at e2;cases e2
 ·rw[n4 e he];exact hb
 ·rw[n4 e he];simp[Tt]
 ·unfold Mode;have e1:sumTo gs.size (λi=>(upd K ic (.close n') i).cnt)=0:=by rw[lQ K (.close n') GS.cnt (by rw[hK];rfl)];exact m4
  have e2:sumTo gs.size (λi=>(upd K ic (.close n') i).late)=0:=by rw[lQ K (.close n') GS.late (by rw[hK];rfl)];exact m3
  simp only[e1,e2,bA];exact .inr (.inr (.inr (.inr (.inr (.inl ⟨m1,trivial,trivial,trivial,.inr rfl⟩)))))
 ·have hr:Rest p.Wg t K ic st:=h.out.2.2.1;rw[hs,m2]at hr;exact hr.got
theorem Inv.ahn(h:Inv P n0 W0 V gs w t K Im ic (some p) st)(aI:p.recv=true){n:Nat}{gi:SG}(aN:gs[ic]?=some gi)(hK:K ic=.close n)(jS:IX P p.c (U0 t ic) gi):gH P n0 W0 V gs w sl t K Im ic (some p) st ic:=by
 obtain⟨s,hs,gA,iX,hm⟩:=h.mode aI;obtain⟨⟨nn,m1⟩,m2,m3,m4⟩:=hm.PF (.inr (by rw[hK];rfl));obtain⟨hd,bL,L1,g',aP,q,ie⟩:=jS;have ma:=aP w nn m1;have fL:∀e∈(#[⟨.obj p.c,false,true⟩,⟨.obj p.c,true,true⟩]:Array Uu),e=⟨.obj p.c,false,true⟩\/e=⟨.obj p.c,true,true⟩:=λe he=>by simpa using he
 have L4:∀j,0<j->j<gs.size->j≠ic->(K j).idx=none:=λj _ hj _=>by
  have hle:(K j).cnt<=sumTo gs.size λi=>(K i).cnt:=WG (f:=λi=>(K i).cnt) hj;exact GS.abg (by omega)
 have LF:g'.status=.running\/g'.status=.finished:=ZO ie;have rX:p.c≠p.Wg:=h.phase.2.2.1;have Lg:=h.low.1;have eu:Tc ic gi.frame.fn gi.frame.place #[⟨.obj p.c,false,true⟩,⟨.obj p.c,true,true⟩]=#[{g:=ic,fn:=gi.frame.fn,pos:=gi.frame.place,act:=.ofEvent ⟨.obj p.c,false,true⟩},{g:=ic,fn:=gi.frame.fn,pos:=gi.frame.place,act:=.close p.c}]:=by simp[Tc,Tt]
 have g1:=rQ (t:=t) (show (#[({g:=ic,fn:=gi.frame.fn,pos:=gi.frame.place,act:=.ofEvent ⟨.obj p.c,false,true⟩}:Wi),{g:=ic,fn:=gi.frame.fn,pos:=gi.frame.place,act:=.close p.c}]:Up)[1]?=some _ from rfl);have n_:∀op∈(#[({g:=ic,fn:=gi.frame.fn,pos:=gi.frame.place,act:=.ofEvent ⟨.obj p.c,false,true⟩}:Wi),{g:=ic,fn:=gi.frame.fn,pos:=gi.frame.place,act:=.close p.c}]:Up),still op.act:=by
  intro op ay;simp only[TO,SK,SZ,or_false]at ay;rcases ay with rfl|rfl<;>exact⟨by simp[Tt],by simp[Tt]⟩
 have aah:∃n,({w with heap:=w.heap.setIfInBounds p.c (.chan 0 #[] true nn nn false)}:Tq).heap[p.c]?=some (.chan 0 #[] true n n false):=⟨nn,by simp[Lg]⟩;refine h.uw aI (k':=.gone q) (s':=.shut (t.size+1)) gA aN ma (by rw[hd];exact ie) (by rw[hK];exact HD _) (λ_=>rfl) rfl (λj hj=>by rw[hK]at hj;cases hj) (.inl rfl) (λe he x hx=> .inl ?_) (λe he=> ?_) (λe he a=> ?_) (by simp) (λb hb _=>by simp[Ws,Ne.symm hb]) rfl rfl rfl
  ?_ (.inr ⟨L4,λg hg=>aph gA hg L1 LF aah⟩) ?_ (zk iX (by rw[hK];exact .inl (by simp[GS.dc])))
 ·rcases fL e he with rfl|rfl
  ·cases hx;exact⟨rfl,rfl⟩
  ·cases hx
 ·rcases fL e he with rfl|rfl
  ·exact Lg
  ·exact Lg
 ·rcases fL e he with rfl|rfl<;>simp[Tt]
 ·unfold Mode;have e1:sumTo gs.size (λi=>(upd K ic (.gone q) i).cnt)=0:=by rw[lQ K (.gone q) GS.cnt (by rw[hK];rfl)];exact m4
  have e2:sumTo gs.size (λi=>(upd K ic (.gone q) i).late)=0:=by rw[lQ K (.gone q) GS.late (by rw[hK];rfl)];exact m3
  simp only[e1,e2,bA];obtain⟨n,hn⟩:=aah;refine .inr (.inr (.inr (.inr (.inr (.inr ⟨⟨t.size+1,n,rfl,?_,?_,hn⟩,trivial,trivial,rfl⟩)))))
  ·rw[eu];exact aj' g1
  ·rw[eu];exact heard_new (k:=1) rfl rfl (by rw[uU n_ (by simp)];exact hd)
 ·have hr:Rest p.Wg t K ic st:=h.out.2.2.1;rw[hs,m2]at hr;rw[eu];refine hr.app (λidx a ha hx=> .inr (.inr (Knows.hb_new hx (by omega) g1 rfl))) (λidx a hi ⟨op,ay,da,_⟩ _=> .inr (.inr ?_));have hlt:idx<t.size+2:=by have:=TN da;simpa using this
  have pV:op.g=ic:=by
   simp only[TO,SK,SZ,or_false]at ay;rcases ay with rfl|rfl<;>rfl
  exact PY (g:=ic) (by simp[WE,da,pV]) (by simp[WE,g1]) (by omega)
structure Fv (P:SI)(n0:Nat)(W0:Tq)(V:View)(gs:Array SG)(w:Tq)(sl:Option (Nat×Nat))(t:Up)(Im:cE)(ic:Nat)(p:Phase)(st:Option eB)(g:SG)(i:Nat):Prop where
 intro::
 met:∃gs' w' ops K' j sp S v lh Ow,runT P (crowd gs w sl) i=(.next (crowd gs' w' sl),ops)/\gs'.size=gs.size/\kP gs' (Ua g (.tuple #[v,.bool true]))/\p.Ss[j]?=some (sp::S)/\sp v lh Ow/\(∀b,V.own b≠none->Ow b=none)/\(∀b o,V.own b≠none->lh b o≠none->V.ab b o≠none)/\
  (∃w,Sat V w/\(∀b o x,lh b o=some x->w.cell? ⟨b,o,none⟩=some x)/\∀b x,Ow b=some x->w.heap[b]?=some x)/\
  Inv P n0 W0 (oi V lh Ow (.recv p.c p.Wg (p.Ss.set j S))) gs' w' (t++ops) K' Im ic (some {p with Ss:=p.Ss.set j S}) st
theorem Inv.art(h:Inv P n0 W0 V gs w t K Im ic (some p) st)(aI:p.recv=true)(gL:V.deaf=0){g:SG}(hm:oC gs g p.c){i j:Nat}{gi:SG}{hh h':Ht}{Vi V₁:View}{c Wg:Nat}{sp:Spec}{S:List Spec}{v z:SQ}{B:Nat->Bool}(hi:0<i)(aN:gs[i]?=some gi)
  (hK:K i=.work j hh Vi) (hg:d_ Vi V₁) (hr:V₁.role=.work c Wg (sp::S)) (hd:V₁.deaf=0) (aP:stepG P false gi w=.comm gi #[scase c v z] true .send w #[])
  (qW:sp v V₁.ab (mo B V₁)) (hk:lU P h' (mi B V₁ (.work c Wg S)) (Ua gi undef)):Fv P n0 W0 V gs w sl t Im ic p st g i:=by
 have hlt:i<gs.size:=(SR.1 aN).1;have dj:=h.is i gi hi aN;simp only[hK,GS.is]at dj;obtain⟨bB,_,S',hS,jq⟩:=dj;rw[hg.role,jq]at hr;cases hr;have gY:(K i).cnt=1:=by rw[hK];rfl
 obtain⟨⟨n,gQ⟩,lH⟩:=h.counted hi hlt gY;have eZ:(i==0)=false:=by simp;omega
 obtain⟨g0,z0,h0,lD,iV,nd⟩:=hm;have hp:partners (gs.setIfInBounds i ph) p.c false=[(0,0)]:=by
  have Gb:(gs.setIfInBounds i ph)[0]?=some (parked g0 #[rcase p.c z0] (.recv true)):=by rw[SW (by omega)];exact h0
  rw[partners_one Gb (λm x hm hx=> ?_),offersAt_parked_recv]
  ·simp
  ·rcases Yc gs i m x hx with⟨_,rfl⟩|⟨_,jT⟩
   ·exact Zt _ _
   ·exact acs (h.is m x (by omega) jT) _
 have bL:=crowd_send_meets (P:=P) (sl:=sl) (i:=i) aN (by rw[eZ];exact aP) gQ (by omega) h0 hp;rw[Yx,aj_]at bL;have mK:(K i).view Im=Vi:=by rw[hK];rfl
 have aY:((gs.setIfInBounds 0 (Ua g0 (recvd true v true))).setIfInBounds i (Ua gi undef)).size=gs.size:=by simp
 have aS:U0 t i=0:=by rw[bB,<- hg.deaf,hd]
 have DK:Sat V₁ w:=by
  have:=h.core.sat i hlt;rw[show bH V Im K i=(K i).view Im by simp[bH];omega,mK]at this;exact hg.sat w this
 have Mp:Sat V w:=by have:=h.core.sat 0 h.pos;rwa [show bH V Im K 0=V by simp[bH]]at this
 have vz:=h.met (gs':=(gs.setIfInBounds 0 (Ua g0 (recvd true v true))).setIfInBounds i (Ua gi undef)) (w':=w.setChan p.c 0 #[] false (n+1) (n+1) false) (gi:=gi) (h':=h') (V₁:=V₁) (S:=S) (sp:=sp) (B:=B) aI gL hi hlt (by rw[hK];rfl) (by rw[mK];exact hg) (by rw[hg.role,jq]) hd aS hS hk aY
  (by rw[Tb (by simpa using hlt)]) (λm hm h_=>by rw[SW (Ne.symm hm),SW (by omega)])
  (u:=Tc i gi.frame.fn gi.frame.place #[]++#[{g:=i,fn:=gi.frame.fn,pos:=gi.frame.place,act:=.send p.c n},{g:=0,fn:=g0.frame.fn,pos:=g0.frame.place,act:=.recv p.c n 0},
    {g:=i,fn:=gi.frame.fn,pos:=gi.frame.place,act:=.sendDone p.c n},{g:=0,fn:=g0.frame.fn,pos:=g0.frame.place,act:=.recvDone p.c n}]) (s:=n) (by simp only[Tc,Y3,if_true,Xu];rfl) ⟨rfl,rfl⟩ ⟨rfl,rfl⟩ ⟨rfl,rfl⟩ ⟨rfl,rfl⟩
  (by simp[Wl]) (λb hb=>by simp[Wl,Ws,Ne.symm hb]) ⟨n+1,by simp[Wl,h.low.1]⟩ rfl rfl rfl
 refine⟨_,_,_,_,j,sp,S,v,V₁.ab,mo B V₁,bL,aY,⟨Ua g0 (recvd true v true),?_,rfl,?_,iV,nd⟩,hS,qW,vz.1,vz.2.1,⟨w,Mp,DK.ab,λb x e=> ?_⟩,vz.2.2⟩
 ·rw[SW (by omega),Tb h.pos]
 ·simp only[Ua,lD];rfl
 ·unfold mo at e;split at e
  ·exact DK.own b x e
  ·cases e
theorem Inv.aqy(h:Inv P n0 W0 V gs w t K Im ic (some p) st)(aI:p.recv=true)(gL:V.deaf=0){g:SG}{z:SQ}(hm:kP gs g)(aP:stepG P true g w=.comm g #[rcase p.c z] true (.recv true) w #[])
  (hw:∃i j h' V₁ V₂ g1 v z1,0<i/\i<gs.size/\K i=.ox j h' V₁ V₂ g1 v z1):Fv P n0 W0 V gs w sl t Im ic p st g 0:=by
 obtain⟨g0,h0,hf0,lD,iV,nd⟩:=hm;have lH:stepG P (0==0) g0 w=.comm g #[rcase p.c z] true (.recv true) w #[]:=by rw[<- aP];exact Xi lD iV nd w
 obtain⟨i0,j0,a0,a1,a2,a3,a4,a5,b0,b1,b2⟩:=hw;have ak0:(K i0).cnt=1:=by rw[b2];rfl
 obtain⟨⟨n,gQ⟩,Hb⟩:=h.counted b0 b1 ak0;have sq:gs[i0]?=some gs[i0]:=SJ b1;have eQ:∀j k,(j,k)∈partners (gs.setIfInBounds 0 ph) p.c true->k=0/\j≠0/\∃gj vj zj OF,gs[j]?=some (parked gj #[scase p.c vj zj] OF):=by
  intro j k hjk;obtain⟨x,hx,hk⟩:=mem_partners.1 hjk;rcases Yc gs 0 j x hx with⟨_,rfl⟩|⟨vr,jT⟩
  ·rw[Zt]at hk;cases hk
  ·rcases GS.runs (h.is j x (by omega) jT)with hr|⟨hf,_⟩|⟨q,h',V1,V2,g1,v,z1,e⟩|⟨_,hb,ho⟩
   ·rw[U2 (by rw[hr];simp)]at hk;cases hk
   ·rw[U2 (by rw[hf];simp)]at hk;cases hk
   ·have:=h.is j x (by omega) jT;simp only[e,GS.is]at this;obtain⟨_,_,rfl,_⟩:=this;rw[ZN]at hk;simp at hk;exact⟨hk,vr,g1,v,z1,.send,jT⟩
   ·have:offersAt x p.c true=[]:=(by unfold offersAt;simp[hb,ho]);rw[this]at hk;cases hk
 have aG:partners (gs.setIfInBounds 0 ph) p.c true≠[]:=by
  intro e;have fL:(i0,0)∈partners (gs.setIfInBounds 0 ph) p.c true:=by
   have:=h.is i0 _ b0 sq;simp only[b2,GS.is]at this;obtain⟨_,_,jp,_⟩:=this;refine mem_partners.2 ⟨gs[i0],by rw[SW (by omega)];exact sq,?_⟩;rw[jp,ZN];simp
  rw[e]at fL;cases fL
 obtain⟨i,gj,vj,zj,OF,d,eZ,aN,bL⟩:=crowd_recv_meets_some (P:=P) (sl:=sl) h0 lH gQ aG eQ;have hi:0<i:=by omega
 have hlt:i<gs.size:=(SR.1 aN).1;obtain⟨j,h',V₁,V₂,g1,v,z1,hK⟩:∃j h' V₁ V₂ g1 v z1,K i=.ox j h' V₁ V₂ g1 v z1:=by
  rcases GS.runs (h.is i _ hi aN)with hr|⟨hf,_⟩|x|⟨_,_,ho⟩
  ·cases hr
  ·cases hf
  ·exact x
  ·cases ho
 have dj:=h.is i _ hi aN;simp only[hK,GS.is]at dj;obtain⟨bB,hd,jp,hk,sp,S,B,hS,jq,qW,Aw⟩:=dj;have efr:gj.frame=g1.frame/\gj.callers=g1.callers/\gj.dying=g1.dying/\vj=v/\zj=z1/\OF=.send:=by
  simp only[parked,ai',Tl,U8]at jp;obtain⟨e1,e2,_,e3,e4,e5⟩:=jp;simp[scase]at e4;exact⟨e1,e2,e3,e4.1,e4.2,e5⟩
 obtain⟨e1,e2,e3,rfl,rfl,rfl⟩:=efr;have esv:Ua gj undef=Ua g1 undef:=by simp[Ua,e1,e2,e3]
 rw[aj_,Yx,esv]at bL;subst Aw;have mK:(K i).view Im=V₁:=by rw[hK];rfl
 have aY:((gs.setIfInBounds i (Ua g1 undef)).setIfInBounds 0 (Ua g (recvd true vj true))).size=gs.size:=by simp
 have DK:Sat V₁ w:=by
  have:=h.core.sat i hlt;rwa [show bH V Im K i=(K i).view Im by simp[bH];omega,mK]at this
 have Mp:Sat V w:=by have:=h.core.sat 0 h.pos;rwa [show bH V Im K 0=V by simp[bH]]at this
 have vz:=h.met (gs':=(gs.setIfInBounds i (Ua g1 undef)).setIfInBounds 0 (Ua g (recvd true vj true))) (w':=(w.at d).setChan p.c 0 #[] false (n+1) (n+1) false) (gi:=g1) (h':=h') (V₁:=V₁) (S:=S) (sp:=sp) (B:=B) aI gL hi hlt (by rw[hK];rfl) (by rw[mK];exact d_.refl _) jq hd bB hS hk aY
  (by rw[SW (by omega),Tb hlt]) (λm hm h_=>by rw[SW (by omega),SW (Ne.symm hm)])
  (u:=Tc 0 g0.frame.fn g0.frame.place #[]++#[{g:=i,fn:=gj.frame.fn,pos:=gj.frame.place,act:=.send p.c n},{g:=0,fn:=g.frame.fn,pos:=g.frame.place,act:=.recv p.c n 0},
    {g:=i,fn:=gj.frame.fn,pos:=gj.frame.place,act:=.sendDone p.c n},{g:=0,fn:=g.frame.fn,pos:=g.frame.place,act:=.recvDone p.c n}]) (s:=n) (by simp only[Tc,Y3,if_true,Xu];rfl) ⟨rfl,rfl⟩ ⟨rfl,rfl⟩ ⟨rfl,rfl⟩ ⟨rfl,rfl⟩
  (by simp[Wl,World.at]) (λb hb=>by simp[Wl,World.at,Ws,Ne.symm hb]) ⟨n+1,by simp[Wl,World.at,h.low.1]⟩ rfl rfl rfl
 refine⟨_,_,_,_,j,sp,S,vj,V₁.ab,mo B V₁,bL,aY,⟨Ua g (recvd true vj true),?_,rfl,rfl,rfl,rfl⟩,hS,qW,vz.1,vz.2.1,⟨w,Mp,DK.ab,λb x e=> ?_⟩,vz.2.2⟩
 ·rw[Tb (by simpa using h.pos)]
 ·unfold mo at e;split at e
  ·exact DK.own b x e
  ·cases e
end
section
variable {P:SI}{n0:Nat}{W0:Tq}{V:View}{gs gs':Array SG}{w w':Tq}{sl:Option (Nat×Nat)}{t:Up}{K:Nat->GS}{Im:cE}{ic:Nat}{ph:Option Phase}{p:Phase}{st st':Option eB}
theorem Inv.ux(h:Inv P n0 W0 V gs w t K Im ic (some p) st){i n:Nat}{gi:SG}{Stop:Nat->SG->Prop}{mk:Nat->GS}(hi:0<i)(aN:gs[i]?=some gi)(hK:K i=mk n)(cy:cV P Stop n (U0 t i) gi)
  (mG:∀n d g,cV P Stop n d g->(mk n).is P p.c p.Wg Im p.Ss d g) (dl:∀n m,(mk n).shape=(mk m).shape) (MH:∀n m,(mk n).view Im=(mk m).view Im) (Mm:∀n,rE (mk n).dc (mk (n+1)).dc) (A2:∀d g,Stop d g->g.status=.running)
  (hgo:Stop (U0 t i) gi->gH P n0 W0 V gs w sl t K Im ic (some p) st i):gH P n0 W0 V gs w sl t K Im ic (some p) st i:=by
 cases n with
 |zero=>exact hgo cy
 |succ n=>
  rcases cy with hs|⟨hr,g',es,hm,aP,hs⟩
  ·exact hgo hs
  ·exact h.slip (k':=mk n) hi aN (aP w) hm (mG _ _ _ hs) (λx=>by rw[cV.running A2 hs]at x;cases x) (by rw[hK];exact dl _ _) (by rw[hK];exact MH _ _) (λ_=>cV.running A2 hs) (by rw[hK];exact Mm n)
theorem Inv.adv(h:Inv P n0 W0 V gs w t K Im ic (some p) st){i n:Nat}{gi:SG}{Stop:Nat->SG->Prop}{mk:Nat->GS}(hi:0<i)(aN:gs[i]?=some gi)(hK:K i=mk n)(hW:∃x y,WgAt P p.Wg w x y)(cy:iu P p.Wg Stop n (U0 t i) gi)
  (mG:∀n d g,iu P p.Wg Stop n d g->(mk n).is P p.c p.Wg Im p.Ss d g) (dl:∀n m,(mk n).shape=(mk m).shape) (MH:∀n m,(mk n).view Im=(mk m).view Im) (Mm:∀n,rE (mk n).dc (mk (n+1)).dc) (A2:∀d g,Stop d g->g.status=.running)
  (hgo:Stop (U0 t i) gi->gH P n0 W0 V gs w sl t K Im ic (some p) st i):gH P n0 W0 V gs w sl t K Im ic (some p) st i:=by
 cases n with
 |zero=>exact hgo cy
 |succ n=>
  rcases cy with hs|⟨hr,g',es,hm,aP,hs⟩
  ·exact hgo hs
  ·exact h.slip (k':=mk n) hi aN (aP w _ _ hW.choose_spec.choose_spec) hm (mG _ _ _ hs) (λx=>by rw[iu.running A2 hs]at x;cases x) (by rw[hK];exact dl _ _) (by rw[hK];exact MH _ _) (λ_=>iu.running A2 hs) (by rw[hK];exact Mm n)
theorem Inv.other(h:Inv P n0 W0 V gs w t K Im ic ph st){g:SG}(pS:kP gs g\/∃p,ph=some p/\p.recv=true/\V.deaf=0/\oC gs g p.c){i:Nat}{gi:SG}(hi:0<i)(aN:gs[i]?=some gi)(bL:gi.status=.running):
  gH P n0 W0 V gs w sl t K Im ic ph st i\/∃p,ph=some p/\Fv P n0 W0 V gs w sl t Im ic p st g i/\oC gs g p.c:=by
 have hlt:i<gs.size:=(SR.1 aN).1;have dj:=h.out.1 i gi hi aN;have gone:∀q,K i=.gone q->Y_ P q (U0 t i) gi->gH P n0 W0 V gs w sl t K Im ic ph st i:=by
  intro q hK hq;cases q with
  |zero=>rw[hq.1]at bL;cases bL
  |succ q=>
   rcases hq with⟨hf,_⟩|⟨_,g',es,hm,aP,tZ⟩
   ·rw[hf]at bL;cases bL
   ·refine h.slip (k':=.gone q) hi aN (aP w) hm ?_ (λx=>by rcases tZ.status with e|e<;>rw[e]at x<;>cases x) (by rw[hK];rfl) (by rw[hK];rfl) (λx=>by rw[hK]at x;rcases x with x|x<;>cases x) (by rw[hK];exact .inr ⟨rfl,.inr ⟨rfl,Uz _⟩⟩);cases ph with
    |none=>exact⟨q,rfl,tZ⟩
    |some p=>exact tZ
 cases ph with
 |none=>
  obtain⟨q,hK,hq⟩:=dj;exact .inl (gone q hK hq)
 |some p=>
  have fi:(K i).is P p.c p.Wg Im p.Ss (U0 t i) gi:=dj;have qU:(K i).idx=none->(∀q,K i≠ .gone q)->p.recv=true:=λh1 h2=>by
   cases aI:p.recv with
   |true=>rfl
   |false=>
    have hx:=h.phase.2.2.2.2.2.2.2.2.2;rw[if_neg (by rw[aI];simp)]at hx;rcases hx.2.2.2.1 i hi hlt with x|⟨q,x⟩
    ·rw[h1]at x;cases x
    ·exact absurd x (h2 q)
  cases hK:K i with
  |gone q=>rw[hK]at fi;exact .inl (gone q hK fi)
  |ox j h' V1 V2 g0 v z=>
   rw[hK]at fi;obtain⟨_,_,rfl,_⟩:=fi;cases bL
  |work j hh Vi=>
   rw[hK]at fi;obtain⟨hd,ML,S,hS,jq⟩:=fi;have mK:bH V Im K i=Vi:=(by simp[bH,hK,GS.view];omega);have fE:Sat Vi w:=(by have:=h.core.sat i hlt;rwa [mK]at this);cases ML with
   |step G' W' E' V' hs hg h1 h2 h3=>
    exact .inl (h.aey hi aN hK (h1 w (hg.sat w fE)) (dh.sB hg (h2 w (hg.sat w fE))) (h3 w (hg.sat w fE)) (.mk _ w))
   |send c Wg sp S1 v z B hs hg hr c_ ho h1 h2 h3=>
    have er:nB.work p.c p.Wg S=.work c Wg (sp::S1):=(by rw[<- jq,<- hg.role,hr]);cases er;rcases pS with hm|⟨p',AX,aI,gL,hm⟩
    ·exact .inl (h.aty hm hi aN hK hg hr c_ (h1 w (hg.sat w fE)) h2 h3)
    ·cases AX;exact .inr ⟨p,rfl,h.art aI gL hm hi aN hK hg hr c_ (h1 w (hg.sat w fE)) h2 h3,hm⟩
   |done c Wg hg hr c_ h1=>
    have er:nB.work p.c p.Wg S=.work c Wg []:=(by rw[<- jq,<- hg.role,hr]);cases er;refine .inl (h.release ?_ hi aN hK hg hr c_ h1);cases aI:p.recv with
    |true=>rfl
    |false=>
     have hx:=h.phase.2.2.2.2.2.2.2.2.2;rw[if_neg (by rw[aI];simp)]at hx;exact absurd rfl (hx.2.2.2.2.1 [] (S8 hS))
   |slip c Wg hs hg hr h1 h3=>
    have er:nB.work p.c p.Wg S=.work c Wg []:=(by rw[<- jq,<- hg.role,hr]);cases er;have aI:p.recv=true:=by
     cases aI:p.recv with
     |true=>rfl
     |false=>
      have hx:=h.phase.2.2.2.2.2.2.2.2.2;rw[if_neg (by rw[aI];simp)]at hx;exact absurd rfl (hx.2.2.2.2.1 [] (S8 hS))
    obtain⟨s,hW⟩:=h.aht aI hlt (by rw[hK];rfl);exact .inl (h.aey hi aN hK (h1 w s (hg.sat w fE) hW) (dh.sB hg (dh.idle (hg.sat w fE))) h3 (BX.mk (λ_=>_) w))
  |add n=>
   rw[hK]at fi;have aI:=qU (by rw[hK];rfl) (λq=>by rw[hK];simp);exact .inl (h.ux (mk:=.add) hi aN hK fi (λ_ _ _ x=>x) (λ_ _=>rfl) (λ_ _=>rfl) (λn=> .inr ⟨rfl,.inr ⟨rfl,Uz _⟩⟩) (λ_ _ x=>x.2.1) (λhs=>h.afH aI hi aN hK hs))
  |load n=>
   rw[hK]at fi;have aI:=qU (by rw[hK];rfl) (λq=>by rw[hK];simp);exact .inl (h.ux (mk:=.load) hi aN hK fi (λ_ _ _ x=>x) (λ_ _=>rfl) (λ_ _=>rfl) (λn=> .inr ⟨rfl,.inr ⟨rfl,Uz _⟩⟩) (λ_ _ x=>x.2.1) (λhs=>h.anZ aI hi aN hK hs))
  |store n=>
   rw[hK]at fi;have aI:=qU (by rw[hK];rfl) (λq=>by rw[hK];simp);exact .inl (h.ux (mk:=.store) hi aN hK fi (λ_ _ _ x=>x) (λ_ _=>rfl) (λ_ _=>rfl) (λn=> .inr ⟨rfl,.inr ⟨rfl,Uz _⟩⟩) (λ_ _ x=>x.2.1) (λhs=>h.asn aI hi aN hK hs))
  |mS n=>
   rw[hK]at fi;have aI:=qU (by rw[hK];rfl) (λq=>by rw[hK];simp);exact .inl (h.ux (mk:=.mS) hi aN hK fi (λ_ _ _ x=>x) (λ_ _=>rfl) (λ_ _=>rfl) (λn=> .inr ⟨rfl,.inr ⟨rfl,Uz _⟩⟩) (λ_ _ x=>x.2.1) (λhs=>h.ars aI hi aN hK hs))
  |head k n=>
   rw[hK]at fi;have aI:=qU (by rw[hK];rfl) (λq=>by rw[hK];simp);have fX:i=ic:=h.sJ hi (by rw[hK];rfl);exact .inl (h.ux (mk:=.head k) hi aN hK fi (λ_ _ _ x=>x) (λ_ _=>rfl) (λ_ _=>rfl) (λn=> .inr ⟨rfl,.inr ⟨rfl,Uz _⟩⟩) (λ_ _ x=>aap x) (λhs=>by subst fX;exact h.alm aI aN hK hs))
  |mA v n=>
   rw[hK]at fi;have aI:=qU (by rw[hK];rfl) (λq=>by rw[hK];simp);have fX:i=ic:=h.sJ hi (by rw[hK];rfl);exact .inl (h.ux (mk:=.mA v) hi aN hK fi (λ_ _ _ x=>x) (λ_ _=>rfl) (λ_ _=>rfl) (λn=> .inr ⟨rfl,.inr ⟨rfl,Uz _⟩⟩) (λ_ _ x=>x.2.1) (λhs=>by subst fX;exact h.ahi aI aN hK hs))
  |said n=>
   rw[hK]at fi;have aI:=qU (by rw[hK];rfl) (λq=>by rw[hK];simp);have fX:i=ic:=h.sJ hi (by rw[hK];rfl);exact .inl (h.adv (mk:=.said) hi aN hK (h.Pw aI (n:=n) (.inr (by rw[<- fX];exact hK))) fi (λ_ _ _ x=>x) (λ_ _=>rfl) (λ_ _=>rfl) (λn=> .inr ⟨rfl,.inr ⟨rfl,Uz _⟩⟩) (λ_ _ x=>x.2.1) (λhs=>by subst fX;exact h.aq6 aI aN hK hs))
  |iy n=>
   rw[hK]at fi;have aI:=qU (by rw[hK];rfl) (λq=>by rw[hK];simp);have fX:i=ic:=h.sJ hi (by rw[hK];rfl);rcases fi with fi|⟨_,g1,rfl,_⟩
   ·exact .inl (h.ux (mk:=.iy) hi aN hK fi (λ_ _ _ x=> .inl x) (λ_ _=>rfl) (λ_ _=>rfl) (λn=> .inr ⟨rfl,.inr ⟨rfl,Uz _⟩⟩) (λ_ _ x=>x.2.1) (λhs=>by subst fX;exact h.ahu aI aN hK hs))
   ·cases bL
  |last n=>
   rw[hK]at fi;have aI:=qU (by rw[hK];rfl) (λq=>by rw[hK];simp);have fX:i=ic:=h.sJ hi (by rw[hK];rfl);exact .inl (h.ux (mk:=.last) hi aN hK fi (λ_ _ _ x=>x) (λ_ _=>rfl) (λ_ _=>rfl) (λn=> .inr ⟨rfl,.inr ⟨rfl,Uz _⟩⟩) (λ_ _ x=>x.2.1) (λhs=>by subst fX;exact h.anj aI aN hK hs))
  |acq n=>
   rw[hK]at fi;have aI:=qU (by rw[hK];rfl) (λq=>by rw[hK];simp);have fX:i=ic:=h.sJ hi (by rw[hK];rfl);exact .inl (h.adv (mk:=.acq) hi aN hK (h.Pw aI (n:=n) (.inl (by rw[<- fX];exact hK))) fi (λ_ _ _ x=>x) (λ_ _=>rfl) (λ_ _=>rfl) (λn=> .inr ⟨rfl,.inr ⟨rfl,Uz _⟩⟩) (λ_ _ x=>x.2.1) (λhs=>by subst fX;exact h.afC aI aN hK hs))
  |look n=>
   rw[hK]at fi;have aI:=qU (by rw[hK];rfl) (λq=>by rw[hK];simp);have fX:i=ic:=h.sJ hi (by rw[hK];rfl);exact .inl (h.ux (mk:=.look) hi aN hK fi (λ_ _ _ x=>x) (λ_ _=>rfl) (λ_ _=>rfl) (λn=> .inr ⟨rfl,.inr ⟨rfl,Uz _⟩⟩) (λ_ _ x=>x.2.1) (λhs=>by subst fX;exact h.an0 aI aN hK hs))
  |close n=>
   rw[hK]at fi;have aI:=qU (by rw[hK];rfl) (λq=>by rw[hK];simp);have fX:i=ic:=h.sJ hi (by rw[hK];rfl);exact .inl (h.ux (mk:=.close) hi aN hK fi (λ_ _ _ x=>x) (λ_ _=>rfl) (λ_ _=>rfl) (λn=> .inr ⟨rfl,.inr ⟨rfl,Uz _⟩⟩) (λ_ _ x=>x.2.1) (λhs=>by subst fX;exact h.ahn aI aN hK hs))
theorem Inv.awake(h:Inv P n0 W0 V gs w t K Im ic ph st){g:SG}(pS:kP gs g\/∃p,ph=some p/\p.recv=true/\V.deaf=0/\oC gs g p.c):∀x∈gs,awake x:=by
 intro x hx;obtain⟨i,hi⟩:=YF.1 hx;rcases UL i with rfl|eZ
 ·rcases pS with⟨g0,h0,h1,_⟩|⟨p,_,_,_,g0,z,h0,_⟩
  ·rw[hi]at h0;cases h0;intro s;rw[h1];simp
  ·rw[hi]at h0;cases h0;intro s;simp[parked]
 ·have dj:=h.out.1 i x eZ hi;intro s;cases ph with
  |none=>
   obtain⟨q,_,hq⟩:=dj;rcases hq.status with e|e<;>rw[e]<;>simp
  |some p=>
   rcases GS.runs (show (K i).is P p.c p.Wg Im p.Ss (U0 t i) x from dj)with e|⟨e,_⟩|⟨j,h',V1,V2,g1,v,z,e⟩|⟨_,e,_⟩
   ·rw[e];simp
   ·rw[e];simp
   ·have fi:(K i).is P p.c p.Wg Im p.Ss (U0 t i) x:=dj;rw[e]at fi;obtain⟨_,_,rfl,_⟩:=fi;simp[parked]
   ·rw[e];simp
end
def Ok (P:SI)(Post:SQ->Tq->Prop)(m:au')(t:Up):Prop:=
 ∃M last o w' t',runNT P (M+1) m t=(.ended o w',t')/\runN P M m=.next last/\step P last=.ended o w'/\W4 P Post last o w' t'
section
variable {P:SI}{Post:SQ->Tq->Prop}
theorem Ok.step{m m':au'}{t:Up}{ops:Array Wi}(hs:stepT P m=(.next m',ops))(h:Ok P Post m' (t++ops)):Ok P Post m t:=by
 obtain⟨M,last,o,w',t',h1,h2,h3,h4⟩:=h;refine⟨M+1,last,o,w',t',?_,?_,h3,h4⟩
 ·rw[runNT,hs];exact h1
 ·have:ah_ P m=.next m':=by unfold ah_;rw[hs]
  rw[runN,this];exact h2
theorem Ok.end{m:au'}{t:Up}{o:Outcome}{w':Tq}{ops:Array Wi}(hs:stepT P m=(.ended o w',ops))(h:W4 P Post m o w' (t++ops)):Ok P Post m t:=by
 refine⟨0,m,o,w',t++ops,?_,rfl,?_,h⟩
 ·simp[runNT,hs]
 ·unfold ah_;rw[hs]
end
section
variable {P:SI}{n0:Nat}{W0:Tq}{V:View}{gs gs':Array SG}{w w':Tq}{sl:Option (Nat×Nat)}{t:Up}{K:Nat->GS}{Im:cE}{ic:Nat}{ph:Option Phase}{p:Phase}{st st':Option eB}
theorem Inv.draw(h:Inv P n0 W0 V gs w t K Im ic ph st)(d:Nat):Inv P n0 W0 V gs (w.at d) t K Im ic ph st:=
 let⟨a,b,c,e⟩:=h.out
 Inv.mk' h.pos h.k0 h.d0 a (b.draw d) c (by cases ph<;>exact e)
theorem OM{f:Nat->Nat}:∀{N:Nat},0<sumTo N f->∃i,i<N/\0<f i
 |0,h=>by simp[sumTo]at h
 |N+1,h=>by
  by_cases hN:0<f N
  ·exact⟨N,by omega,hN⟩
  ·obtain⟨i,hi,hf⟩:=OM (N:=N) (f:=f) (by rw[sumTo]at h;omega);exact⟨i,by omega,hf⟩
theorem Inv.arG(h:Inv P n0 W0 V gs w t K Im ic (some p) st)(aI:p.recv=true)(ho:zV w p.c)(tK:Calm gs):∃i gi,0<i/\gs[i]?=some gi/\gi.status=.running:=by
 obtain⟨s,hs,gA,iX,hm⟩:=h.mode aI;have h0:=h.k0;have CN:gs[ic]?=some gs[ic]:=SJ iX;have auM:(K ic).is P p.c p.Wg Im p.Ss (U0 t ic) gs[ic]:=h.is ic _ gA CN;have run:∀i x,0<i->gs[i]?=some x->(∀q,K i≠ .gone q)->(∀n,K i≠ .iy n)->x.status=.running:=by
  intro i x hi hx h1 h2;rcases GS.runs (show (K i).is P p.c p.Wg Im p.Ss (U0 t i) x from h.is i x hi hx)with e|⟨_,q,e⟩|⟨j,h',V1,V2,g1,v,z,e⟩|⟨⟨n,e⟩,_⟩
  ·exact e
  ·exact absurd e (h1 q)
  ·have cG:=h.is i x hi hx;simp only[e,GS.is]at cG;obtain⟨_,_,jp,_⟩:=cG;have:=tK i x hi hx (by rw[jp];rfl);rw[jp]at this;cases this
  ·exact absurd e (h2 n)
 have MW:(∀q,K ic≠ .gone q)->(∀n,K ic≠ .iy n)->∃i gi,0<i/\gs[i]?=some gi/\gi.status=.running:=λa b=>⟨ic,_,gA,CN,run ic _ gA CN a b⟩;have other:∀i,i<gs.size->(K i).cnt=1\/(K i).late=1->∃i gi,0<i/\gs[i]?=some gi/\gi.status=.running:=by
  intro i hi hc;have eZ:0<i:=by
   rcases UL i with rfl|x
   ·rw[h0]at hc;rcases hc with c|c<;>cases c
   ·exact x
  exact⟨i,_,eZ,SJ hi,run i _ eZ (SJ hi) (λq e=>by rw[e]at hc;rcases hc with c|c<;>cases c) (λq e=>by rw[e]at hc;rcases hc with c|c<;>cases c)⟩
 have one:∀i,0<(K i).cnt->(K i).cnt=1:=λi hi=>by cases e:K i<;>rw[e]at hi<;>first|rfl|exact absurd hi (by simp[GS.cnt])
 have ao0:∀i,0<(K i).late->(K i).late=1:=λi hi=>by cases e:K i<;>rw[e]at hi<;>first|rfl|exact absurd hi (by simp[GS.late])
 unfold Mode at hm;rcases hm with m|m|m|m|m|m|m
 ·rcases m.2.2.2.2.2 with⟨k,e,_⟩|⟨v,e,_⟩<;>exact MW (λq x=>by rw[x]at e;cases e) (λq x=>by rw[x]at e;cases e)
 ·obtain⟨i,hi,hc⟩:=OM (N:=gs.size) (f:=λi=>(K i).cnt) (by have:=m.2.2.2.1;omega);exact other i hi (.inl (one i hc))
 ·obtain⟨i,hi,hc⟩:=OM (N:=gs.size) (f:=λi=>(K i).late) (by have:=m.2.2.1;omega);exact other i hi (.inr (ao0 i hc))
 ·exact⟨ic,_,gA,CN,m.2.2.2.2.2.1 _ CN⟩
 ·rcases m.2.2.2.2.2 with e|e<;>exact MW (λq x=>by rw[x]at e;cases e) (λq x=>by rw[x]at e;cases e)
 ·rcases m.2.2.2.2 with e|e<;>exact MW (λq x=>by rw[x]at e;cases e) (λq x=>by rw[x]at e;cases e)
 ·obtain⟨⟨_,n,_,_,_,ba⟩,_⟩:=m;obtain⟨n',ho⟩:=ho;rw[ba]at ho;simp at ho
theorem sO(V':View)(Im:cE)(K:Nat->GS):bH V' Im K=upd (bH V Im K) 0 V':=by
 funext j;by_cases hj:j=0
 ·subst hj;rw[bA];simp[bH]
 ·rw[bf _ _ hj];simp[bH,hj]
theorem lf:bH V Im K 0=V:=by simp[bH]
def wj (r:nB)(ph:Option Phase):Prop:=match r with
 |.plain=>ph=none
 |.fork c Wg Ss=>ph=some ⟨c,Wg,Ss,false⟩
 |.recv c Wg Ss=>ph=some ⟨c,Wg,Ss,true⟩
 |.work .. =>False
theorem Inv.aoc(h:Inv P n0 W0 V gs w t K Im ic ph st){V':View}(g:d_ V V')(hr:wj V.role ph):Inv P n0 W0 V' gs w t K Im ic ph st:=by
 obtain⟨dj,hc,nh,gR⟩:=h.out;refine Inv.mk' h.pos h.k0 (by rw[g.deaf];exact h.d0) dj ?_ nh ?_
 ·rw[sO (V:=V)];exact hc.ghost h.pos (by rw[lf];exact g)
 ·cases ph with
  |none=>exact gR
  |some p=>
   obtain⟨a1,a2,a3,a4,a5,a6,a7,a8,a9,bY⟩:=gR;refine⟨a1,a2,a3,a4,a5,a6,a7,a8,a9,?_⟩;split
   ·rename_i aI;rw[if_pos aI]at bY;have b:jD p V:=⟨bY.1.1,bY.1.2.1,bY.1.2.2.1,bY.1.2.2.2⟩;have b':=b.ghost g;exact⟨⟨b'.1,b'.2.1,b'.2.2.1,b'.2.2.2⟩,bY.2⟩
   ·rename_i aI;rw[if_neg aI]at bY;refine⟨g.chan _ _ ?_ bY.1,bY.2⟩;unfold wj at hr;split at hr
    ·cases hr
    ·cases hr;rename_i e;rw[e];rfl
    ·cases hr;exact absurd rfl aI
    ·exact hr.elim
theorem Inv.abW(h:Inv P n0 W0 V gs w t K Im ic ph st){g0 g':SG}{es:Array Uu}{V':View}(h0:gs[0]?=some g0)(s:dh V w V' w' es)(hr:wj V.role ph):
  Inv P n0 W0 V' ((gs.map (woken P g0 g' w')).setIfInBounds 0 g') w' (t++Tc 0 g0.frame.fn g0.frame.place es) K Im ic ph st:=by
 obtain⟨dj,hc,nh,gR⟩:=h.out;have aY:((gs.map (woken P g0 g' w')).setIfInBounds 0 g').size=gs.size:=by simp
 have DM:∀op∈Tc 0 g0.frame.fn g0.frame.place es,op.g=0:=λop ay=>by obtain⟨e,_,rfl⟩:=TQ ay;rfl
 have eE:∀{u:Up}{idx:Nat}{op:Wi},(t++u)[idx]?=some op->op.g=0->Wq (t++u) 0 idx:=λ{u idx op} a b=>by have:=Zj a;rwa [b]at this
 have aag:∀p,ph=some p->w'.heap[p.c]?=w.heap[p.c]?:=by
  rintro p rfl
  obtain⟨a1,a2,a3,a4,a5,a6,a7,a8,a9,bY⟩:=gR;by_cases aI:p.recv=true
  ·rw[if_pos aI]at bY;exact s.frame _ a4 bY.1.1
  ·rw[if_neg aI]at bY;have de:Sat V w:=(by have:=hc.sat 0 h.pos;rwa [lf]at this);have ff:V.role.chan=some p.c:=by
    unfold wj at hr;split at hr
    ·cases hr
    ·cases hr;rename_i e;rw[e];rfl
    ·cases hr;exact absurd rfl aI
    ·exact hr.elim
   rw[s.sat.own _ _ (s.chan _ _ ff bY.1),de.own _ _ bY.1]
 refine Inv.mk' (by rw[aY];exact h.pos) h.k0 (by rw[Deaf_own,s.deaf,h.d0]) (λj x hj hx=> ?_) ?_ ?_ ?_
 ·rcases getElem?_next h.pos hx with⟨e,_⟩|⟨_,y,hy,rfl⟩
  ·omega
  ·rw[avs t (g:=j) (g':=0) (by omega) _ DM];have DZ:=dj j y hj hy;have LR:j<gs.size:=(SR.1 hy).1;cases ph with
   |none=>
    obtain⟨q,hq,p_⟩:=DZ;exact⟨q,hq,by rw[woken_quitsD p_];exact p_⟩
   |some p=>
    refine abl ?_ DZ;rcases h.opens rfl with⟨n,x⟩|x
    ·exact .inl ⟨n,by rw[aag p rfl];exact x⟩
    ·exact .inr (x.1 j hj LR)
 ·rw[aY,sO (V:=V)];refine hc.step h.pos (by rw[lf];exact s) (λe he x hx hs=> ?_) g0.frame.fn g0.frame.place;cases ph with
  |none=>exact hs.elim
  |some p=>
   obtain⟨a1,a2,a3,a4,a5,a6,a7,a8,a9,bY⟩:=gR;have j_:=J7 (s.ft e he) hx;by_cases aI:p.recv=true
   ·exfalso;rw[if_pos aI]at bY;have b:jD p V:=⟨bY.1.1,bY.1.2.1,bY.1.2.2.1,bY.1.2.2.2⟩;rcases j_.1 with y|⟨y,_⟩|y
    ·exact b.Bg y.rd hs
    ·exact b.Bg y hs
    ·exact y (adt a4 a5 hs)
   ·rw[if_neg aI]at bY;have jq:V.role.chan=some p.c/\V.role.group=some p.Wg:=by
     unfold wj at hr;split at hr
     ·cases hr
     ·cases hr;rename_i e;rw[e];exact⟨rfl,rfl⟩
     ·cases hr;exact absurd rfl aI
     ·exact hr.elim
    have kD:nF (some p) gs.size ic K 0:=by
     show jf p gs.size ic K 0;unfold jf;rw[if_neg aI];exact .inl rfl
    have Dt:x.kind≠ .plain:=by
     intro hk;cases hl:x.loc with
     |cell a=>rw[hl]at hs;exact j_.2.2 _ a jq.2 hl hs hk
     |obj r=>rw[hl]at hs;exact j_.2.1 _ jq.1 (by rw[hl];exact congrArg _ hs)
     |_=>rw[hl]at hs;exact hs.elim
    cases hk:x.kind with
    |plain=>exact absurd hk Dt
    |atomic=>exact .inl ⟨rfl,kD⟩
    |said=>exact .inr ⟨rfl,bY.2.1.symm,kD⟩
 ·have w8:∀idx a,t.size<=idx->(∃op∈Tc 0 g0.frame.fn g0.frame.place es,(t++Tc 0 g0.frame.fn g0.frame.place es)[idx]?=some op/\op.act.touch?=some a)->Wq (t++Tc 0 g0.frame.fn g0.frame.place es) 0 idx:=λidx a _ ⟨op,ay,hi,_⟩=>eE hi (DM op ay);cases st with
  |none=>
   intro idx a ha hm;rcases BH ha with gw|⟨hi,x⟩
   ·obtain⟨op,ay,_⟩:=U1 gw;rcases nh idx a gw hm with x|⟨x,y⟩|⟨_,z,_⟩
    ·exact .inl (x.app _)
    ·exact .inr (.inl ⟨x,λz=>y ((Wu (TN ay)).1 z)⟩)
    ·cases z
   ·exact .inl (w8 idx a hi x)
  |some s'=>
   exact nh.app (λidx a ha hx=> .inr (hx.app (by obtain⟨op,ay,_⟩:=U1 ha;exact TN ay) λj _ _ hj=> .inl hj)) (λidx a hi x _=> .inl (w8 idx a hi x))
 ·cases ph with
  |none=>exact gR
  |some p=>
   obtain⟨a1,a2,a3,a4,a5,a6,a7,a8,a9,bY⟩:=gR;refine⟨a1,a2,a3,Te a4 s.size,Te a5 s.size,a6,a7,λj j' m b1 b2 b3 b4=>a8 j j' m b1 (aY▸b2) b3 (aY▸b4),λj S b1 b2=>by rw[aY];exact a9 j S b1 b2,?_⟩;split
   ·rename_i aI;rw[if_pos aI]at bY;obtain⟨c1,c2,c3,s',c4,c5⟩:=bY;have b:jD p V:=⟨c1.1,c1.2.1,c1.2.2.1,c1.2.2.2⟩;have b':=b.step s a4 a5;refine⟨⟨b'.1,b'.2.1,b'.2.2.1,b'.2.2.2⟩,c2,by rw[aY];exact c3,s',c4,?_⟩;rw[aY];refine c5.keep (λ_=>rfl) (aag p rfl) (s.frame _ a5 b.2.2.1) λsh g hg=> ?_;rcases getElem?_next h.pos hg with⟨e,_⟩|⟨_,y,hy,rfl⟩
    ·omega
    ·rw[Ym (sh y hy)];exact sh y hy
   ·rename_i aI;rw[if_neg aI]at bY;have ff:V.role.chan=some p.c:=by
     unfold wj at hr;split at hr
     ·cases hr
     ·cases hr;rename_i e;rw[e];rfl
     ·cases hr;exact absurd rfl aI
     ·exact hr.elim
    exact⟨s.chan _ _ ff bY.1,bY.2.1,bY.2.2.1,by rw[aY];exact bY.2.2.2.1,bY.2.2.2.2.1,by rw[aY];exact bY.2.2.2.2.2⟩
end
theorem aei{x y:Wi}{k:Nat}(hx:x.act=.go k)(hy:y.act=.start):∀op∈(#[x,y]:Up),op.act.touch?=none/\still op.act/\(∀B,op.act.low B)/\∀a,op.act≠ .mark (.release a):=by
 intro op ay;simp only[TO,SK,SZ,or_false]at ay;rcases ay with rfl|rfl
 ·rw[hx];exact⟨rfl,⟨by simp,by simp⟩,λ_=>trivial,by simp⟩
 ·rw[hy];exact⟨rfl,⟨by simp,by simp⟩,λ_=>trivial,by simp⟩
theorem Qq{t:Up}{N:Nat}(h:∀op∈t,op.g<N):U0 t N=0:=by
 have key:∀k,k<=t.size->t.deaf N k=0:=by
  intro k;induction k with
  |zero=>intro _;rfl
  |succ k ih=>
   intro hk;have hy:t[k]?=some t[k]:=SJ (by omega);have aG:¬t[k].g=N:=(by have:=h t[k] (XX _);omega);rw[af_ hy,ih (by omega)];unfold deafStep;split<;>simp[aG]
 exact key _ (SP _)
section
variable {VV:Nat->View}{N:Nat}{w:Tq}{t:Up}{Sh:Loc->Prop}{act act':Nat->Prop}{ic kX n0:Nat}{W0:Tq}
theorem Core.spawn(h:Core VV N w t Sh act ic n0 W0)(h0:0<N)(aS:U0 t 0=0){x y:Wi}(hx:x.g=0/\x.act=.go N)(hy:y.g=N/\y.act=.start){U:View}(hi:U.ab=(VV 0).ab)(ho:U.own=λ_=>none)
  (kD:∀i,act' i->act i\/(i=N/\act 0)) (fX:kX=ic\/(kX=N/\ic=0)):Core (upd VV N U) (N+1) w (t++#[x,y]) Sh act' kX n0 W0:=by
 have jR:=aei hx.2 hy.2;have hdN:U0 t N=0:=Qq h.ti.gs;have hk:∀{idx},Wq t 0 idx->Wq (t++#[x,y]) N idx:=λ{idx} jT=>fork_knows hx hy aS hdN jT;have hsU:Sat U w:=⟨λb o v e=>(h.sat 0 h0).ab b o v (by rw[<- hi];exact e),λb x e=>by rw[ho]at e;cases e⟩;refine⟨λi cG=> ?_,λa b ha hb gM=> ?_,?_,h.tape,h.os,h.out,h.old,λi cG b hb=> ?_,h.n0⟩
 ·by_cases fC:i=N
  ·subst fC;rw[bA];exact hsU
  ·rw[bf _ _ fC];exact h.sat i (by omega)
 ·by_cases Sw:a=N
  ·subst Sw;rw[bA];intro q hq;rw[ho]at hq;exact absurd rfl hq
  ·rw[bf _ _ Sw];by_cases Gs:b=N
   ·subst Gs;rw[bA];intro q hq;refine⟨by rw[ho],λo hu=> ?_⟩;rw[hi]at hu;by_cases Ay:a=0
    ·subst Ay;exact hu
    ·exact(h.dR a 0 (by omega) h0 Ay q hq).2 o hu
   ·rw[bf _ _ Gs];exact h.dR a b (by omega) (by omega) gM
 ·refine h.ti.mute (λop ay=>(jR op ay).1) (λop ay=>(jR op ay).2.2.1 _) (λop ay=> ?_) (by omega) (λop ay=>(jR op ay).2.2.2) (λi cG l hl idx a ha gN so=> ?_) (λi cG l hl idx a ha gN=> ?_) (λidx a ha dl=>⟨λhp i cG=> ?_,λhp=> ?_⟩)
  ·simp only[TO,SK,SZ,or_false]at ay;rcases ay with rfl|rfl
   ·omega
   ·omega
  ·obtain⟨_,cS,ng⟩:=hl;by_cases fC:i=N
   ·subst fC;rw[bA]at cS;have:gV (VV 0) l:=by
     cases l with
     |cell a'=>rcases cS with z|z;exact absurd (by rw[ho]) z;exact .inr (by rw[<- hi];exact z)
     |obj r=>exact absurd (by rw[ho]) cS
     |_=>exact cS.elim
    exact hk (h.ti.kr 0 h0 l ⟨h0,this,ng⟩ idx a ha gN so)
   ·rw[bf _ _ fC]at cS;exact(h.ti.kr i (by omega) l ⟨by omega,cS,ng⟩ idx a ha gN so).app _
  ·obtain⟨_,cS,ng⟩:=hl;by_cases fC:i=N
   ·subst fC;rw[bA]at cS;exfalso;cases l with
    |cell a'=>exact cS.1 (by rw[ho])
    |obj r=>exact cS (by rw[ho])
    |_=>exact cS.elim
   ·rw[bf _ _ fC]at cS;exact(h.ti.kw i (by omega) l ⟨by omega,cS,ng⟩ idx a ha gN).app _
  ·have:=h.ti.sp idx a ha dl;rcases kD i cG with z|⟨rfl,z⟩
   ·exact(this.1 hp i z).app _
   ·exact hk (this.1 hp 0 z)
  ·have:=h.ti.sp idx a ha dl;rcases fX with rfl|⟨rfl,rfl⟩
   ·exact(this.2 hp).app _
   ·exact hk (this.2 hp)
 ·by_cases fC:i=N
  ·subst fC;rw[bA,ho]
  ·rw[bf _ _ fC];exact h.jx i (by omega) b hb
end
section
variable {P:SI}{n0:Nat}{W0:Tq}{V:View}{gs gs':Array SG}{w w':Tq}{sl:Option (Nat×Nat)}{t:Up}{K:Nat->GS}{Im:cE}{ic:Nat}{ph:Option Phase}{p:Phase}{st st':Option eB}
theorem GS.aet{k:GS}(h:k.nL=false)(Im lh:cE):k.view lh=k.view Im:=by cases k<;>first|rfl|cases h
theorem GS.amT{k:GS}{c Wg d:Nat}{Im lh:cE}{Ss Pr:List (List Spec)}{g:SG}(h:k.nL=false)(hS:∀(j:Nat) S,Ss[j]?=some S->Pr[j]?=some S)(hk:k.is P c Wg Im Ss d g):k.is P c Wg lh Pr d g:=by
 cases k with
 |work j hh V=>obtain⟨a,b,S,e,f⟩:=hk;exact⟨a,b,S,hS _ _ e,f⟩
 |ox j hh V V' g0 v z=>obtain⟨a,b,c,d,sp,S,B,e,f⟩:=hk;exact⟨a,b,c,d,sp,S,B,hS _ _ e,f⟩
 |gone q=>exact hk
 |add n=>exact hk
 |load n=>exact hk
 |store n=>exact hk
 |mS n=>exact hk
 |head k n=>cases h
 |mA k n=>cases h
 |said n=>cases h
 |iy n=>cases h
 |last n=>cases h
 |acq n=>cases h
 |look n=>cases h
 |close n=>cases h
theorem Inv.spawn(h:Inv P n0 W0 V gs w t K Im ic (some p) st)(aI:p.recv=false)(gL:V.deaf=0){g' child:SG}{x y:Wi}(hx:x.g=0/\x.act=.go gs.size)(hy:y.g=gs.size/\y.act=.start){V':View}{p':Phase}{lh:cE}{kX:Nat}{k':GS}(hc:p'.c=p.c)(Ax:p'.Wg=p.Wg)
  (qP:mY V' V) (vg:V'.deaf=V.deaf) (qZ:(k'.view lh).ab=V.ab) (hvo:(k'.view lh).own=λ_=>none) (hSs:∀(j:Nat) S,p.Ss[j]?=some S->p'.Ss[j]?=some S) (C9:k'.is P p.c p.Wg lh p'.Ss 0 child)
  (kD:∀i,i<gs.size->jf p' (gs.size+1) kX (upd K gs.size k') i->jf p gs.size ic K i) (fX:kX=ic\/kX=gs.size)
  (Dw:zW P n0 V' ((gs.setIfInBounds 0 g').push child) w (t++#[x,y]) (upd K gs.size k') lh kX (some p') (some .early)):
  Inv P n0 W0 V' ((gs.setIfInBounds 0 g').push child) w (t++#[x,y]) (upd K gs.size k') lh kX (some p') (some .early):=by
 obtain⟨dj,gZ,nh,gR⟩:=h.out;obtain⟨a1,a2,a3,a4,a5,a6,a7,a8,a9,bY⟩:=gR;rw[if_neg (by rw[aI];simp)]at bY;obtain⟨c1,c2,c3,c4,c5,c6⟩:=bY;have aY:((gs.setIfInBounds 0 g').push child).size=gs.size+1:=by simp
 have jR:=aei hx.2 hy.2;have bB:∀i,U0 (t++#[x,y]) i=U0 t i:=λi=>Deaf_still λop ay=>(jR op ay).2.1;have Dy:=h.pos;have aS:U0 t 0=0:=by rw[h.d0,gL]
 have ba:∀i,0<i->(K i).nL=false:=λi hi=>by
  cases e:(K i).nL with
  |false=>rfl
  |true=>have:=h.sJ hi e;omega
 have akE:nF (some p) gs.size ic K 0:=by
  show jf p gs.size ic K 0;unfold jf;rw[if_neg (by rw[aI];simp)];exact .inl rfl
 have yB:=gZ.spawn (act':=nF (some p') (gs.size+1) kX (upd K gs.size k')) (kX:=kX) Dy aS hx hy (U:=k'.view lh) (by rw[lf];exact qZ) hvo (λi hi=>by
   by_cases fC:i<gs.size
   ·exact .inl (kD i fC hi)
   ·refine .inr ⟨?_,akE⟩;have cG:jf p' (gs.size+1) kX (upd K gs.size k') i:=hi;unfold jf at cG;split at cG<;>omega) (fX.imp id λe=>⟨e,c2⟩)
 have ak5:=(yB.less (i:=0) (V':=V') (by omega) (by rw[bf _ _ (by omega),lf];exact qP)).congr (Fy:=bH V' lh (upd K gs.size k')) λi hi=>by
  by_cases eZ:i=0
  ·subst eZ;rw[bA];simp[bH]
  ·rw[bf _ _ eZ];by_cases fC:i=gs.size
   ·subst fC;rw[bA];simp[bH,eZ,bA]
   ·rw[bf _ _ fC];simp only[bH,eZ,if_false,bf _ _ fC];exact GS.aet (ba i (by omega)) _ _
 refine Inv.mk' (by omega) (by rw[bf _ _ (by omega)];exact h.k0) (by rw[bB,vg];exact h.d0) (λi z hi hz=> ?_) ?_ ?_ Dw
 ·rw[bB];show (upd K gs.size k' i).is P p'.c p'.Wg lh p'.Ss _ z;rw[hc,Ax];by_cases fC:i=gs.size
  ·subst fC;rw[bA,Qq gZ.ti.gs];have:z=child:=by
    rw[show gs.size=(gs.setIfInBounds 0 g').size by simp]at hz;rw[Array.getElem?_push_size]at hz;exact(Wb hz).symm
   rw[this];exact C9
  ·have auK:i<gs.size:=(by have:=(SR.1 hz).1;omega);rw[bf _ _ fC];rw[Xl,if_neg (by simp;omega),SW (by omega)]at hz;exact GS.amT (ba i hi) hSs (dj i z hi hz)
 ·rw[aY];have e:sF (some p')=sF (some p):=by show rG p'.c p'.Wg=rG p.c p.Wg;rw[hc,Ax]
  rw[e];exact ak5
 ·have hr:Rest p.Wg t K ic st:=nh;rw[c3]at hr;show Rest p'.Wg _ _ _ _;rw[Ax];intro idx a ha hm;have gw:=BI (λop ay=>(jR op ay).1) ha;obtain⟨op,ay,_⟩:=U1 gw;have hlt:=TN ay;rcases hr idx a gw hm with z|⟨z1,z2⟩|⟨s,hs,jT⟩
  ·exact .inl (z.app _)
  ·exact .inr (.inl ⟨z1,λz=>z2 ((Wu hlt).1 z)⟩)
  ·cases hs;obtain⟨i,hg,hi,hz⟩:=jT;have fC:i<gs.size:=by
    obtain⟨op',bi,pV⟩:=Ts.1 hg;rw[<- pV];exact gZ.ti.gs op' (XW bi)
   refine .inr (.inr ⟨.early,rfl,i,by rw[g?_old hlt];exact hg,hi,?_⟩);rcases hz with hz|hz|⟨r,hz,hle⟩
   ·exact .inl (by rw[bf _ _ (by omega)];exact hz)
   ·omega
   ·exact .inr (.inr ⟨r,hz.app,hle⟩)
theorem Sat.MZ{c:Nat}{a:Nat}{x:Bool}{y z:Nat}{u:Bool}{FR:Array SQ}(h:Sat V w)(hc:w.heap[c]?=some (.chan a FR x y z u))(o:Nat):V.ab c o=none:=by
 cases e:V.ab c o with
 |none=>rfl
 |some v=>have:=h.ab c o v e;simp[UC,hc]at this
theorem Inv.ab9(h:Inv P n0 W0 V gs w t K Im ic (some p) st)(aI:p.recv=false){i:Nat}(hi:0<i):(K i).nL=false:=by
 have hx:=h.phase.2.2.2.2.2.2.2.2.2;rw[if_neg (by rw[aI];simp)]at hx;cases e:(K i).nL with
 |false=>rfl
 |true=>have:=h.sJ hi e;have:=hx.2.1;omega
theorem Inv.F'(h:Inv P n0 W0 V gs w t K Im ic (some p) st)(aI:p.recv=false)(gL:V.deaf=0){g' child:SG}{x y:Wi}(hx:x.g=0/\x.act=.go gs.size)(hy:y.g=gs.size/\y.act=.start){hh:Ht}{sp:Spec}{S:List Spec}(hlen:p.Ss.length<4)(oP:∀o,V.ab p.Wg o=none)
  (C9:lU P hh {ab:=V.ab,own:=λ_=>none,deaf:=0,role:=.work p.c p.Wg (sp::S)} child):
  Inv P n0 W0 {V with role:=.fork p.c p.Wg (p.Ss++[sp::S])} ((gs.setIfInBounds 0 g').push child) w (t++#[x,y]) (upd K gs.size (.work p.Ss.length hh {ab:=V.ab,own:=λ_=>none,deaf:=0,role:=.work p.c p.Wg (sp::S)})) Im ic
   (some {p with Ss:=p.Ss++[sp::S]}) (some .early):=by
 obtain⟨dj,gZ,nh,gR⟩:=h.out;obtain⟨a1,a2,a3,a4,a5,a6,a7,a8,a9,bY⟩:=gR;rw[if_neg (by rw[aI];simp)]at bY;obtain⟨c1,c2,c3,c4,c5,c6⟩:=bY;have aY:((gs.setIfInBounds 0 g').push child).size=gs.size+1:=by simp
 have de:Sat V w:=by have:=gZ.sat 0 h.pos;rwa [lf]at this
 have AF:=de.MZ (de.own _ _ c1);have da:∀i j,0<i->i<gs.size->(K i).idx=some j->j<p.Ss.length:=λi j hi hlt e=>by
  have hik:=dj i _ hi (SJ hlt);have LM:(K i).is P p.c p.Wg Im p.Ss (U0 t i) gs[i]:=hik;cases lz:K i<;>rw[lz]at e LM<;>simp[GS.idx]at e
  ·subst e;obtain⟨_,_,S,e,_⟩:=LM;exact(SN.1 e).1
  ·subst e;obtain⟨_,_,_,_,_,_,_,e,_⟩:=LM;exact(SN.1 e).1
 refine h.spawn aI gL hx hy rfl rfl ⟨λ_=> .inr rfl,λ_ _=> .inr rfl,λ_ _ _=>rfl⟩ rfl rfl rfl (λj S' e=> ?_) ⟨rfl,C9,sp::S,by simp,rfl⟩ (λi hi kD=> ?_) (.inl rfl) ?_
 ·show (p.Ss++[sp::S])[j]?=some S';rw[SY (SN.1 e).1];exact e
 ·unfold jf at kD⊢;rw[if_neg (by show ¬p.recv=true;rw[aI];simp)]at kD;rw[if_neg (by rw[aI];simp)];rw[bf _ _ (by omega)]at kD;exact kD.imp id λz=>⟨hi,z.2⟩
 ·refine⟨a1,a2,a3,a4,a5,by simp only[SL,Ui,UA];omega,λi hi=> ?_,λi i' j b1 b2 b3 b4 b5 b6=> ?_,λj S' b1 b2=> ?_,?_⟩
  ·by_cases fC:i=gs.size
   ·subst fC;rw[bA];exact⟨rfl,AF,rfl,oP,λe=>by cases e⟩
   ·rw[bf _ _ fC];exact a7 i hi
  ·rw[aY]at b2 b4;by_cases e1:i=gs.size
   ·by_cases e2:i'=gs.size
    ·omega
    ·rw[bf _ _ e2]at b6;have:=da i' j b3 (by omega) b6;subst e1;rw[bA]at b5;simp only[GS.idx,Tl]at b5;omega
   ·rw[bf _ _ e1]at b5;by_cases e2:i'=gs.size
    ·have:=da i j b1 (by omega) b5;subst e2;rw[bA]at b6;simp only[GS.idx,Tl]at b6;omega
    ·rw[bf _ _ e2]at b6;exact a8 i i' j b1 (by omega) b3 (by omega) b5 b6
  ·rw[aY];by_cases hj:j<p.Ss.length
   ·have:p.Ss[j]?=some S':=by
     have Jt:(p.Ss++[sp::S])[j]?=some S':=b1;rwa [SY hj]at Jt
    obtain⟨i,e1,e2,e3⟩:=a9 j S' this b2;exact⟨i,e1,by omega,by rw[bf _ _ (by omega)];exact e3⟩
   ·have iI:j=p.Ss.length:=by
     have:=(SN.1 (show (p.Ss++[sp::S])[j]?=some S' from b1)).1;simp at this;omega
    exact⟨gs.size,h.pos,by omega,by rw[bA,iI];rfl⟩
  ·show if p.recv=true then _ else _;rw[if_neg (by rw[aI];simp)];refine⟨c1,c2,rfl,λi b1 b2=> ?_,λS' hS'=> ?_,?_⟩
   ·rw[aY]at b2;by_cases fC:i=gs.size
    ·subst fC;rw[bA];exact .inl rfl
    ·rw[bf _ _ fC];exact c4 i b1 (by omega)
   ·rcases SS.1 hS' with z|z
    ·exact c5 S' z
    ·simp at z;subst z;simp
   ·rw[aY,sumTo,bA,SL,<- c6];rw[Vt (g:=λi=>(K i).cnt) λi hi=>by rw[bf _ _ (by omega)]];rfl
theorem Inv.F_(h:Inv P n0 W0 V gs w t K Im ic (some p) st)(aI:p.recv=false)(gL:V.deaf=0){g' child:SG}{x y:Wi}(hx:x.g=0/\x.act=.go gs.size)(hy:y.g=gs.size/\y.act=.start){n:Nat}
  (Ax:V.own p.Wg=some (wgBlock P (((p.Ss.length:Nat):Int)* KK) 0)) (oP:∀o,V.ab p.Wg o=none) (C9:cV P (eM P V.ab p.c p.Wg 5) n 0 child):
  Inv P n0 W0 {V with own:=λb=>if b=p.c\/b=p.Wg then none else V.own b,role:=.recv p.c p.Wg p.Ss} ((gs.setIfInBounds 0 g').push child) w (t++#[x,y]) (upd K gs.size (.head 5 n)) V.ab gs.size (some {p with recv:=true}) (some .early):=by
 obtain⟨dj,gZ,nh,gR⟩:=h.out;obtain⟨a1,a2,a3,a4,a5,a6,a7,a8,a9,bY⟩:=gR;rw[if_neg (by rw[aI];simp)]at bY;obtain⟨c1,c2,c3,c4,c5,c6⟩:=bY;have aY:((gs.setIfInBounds 0 g').push child).size=gs.size+1:=by simp
 have de:Sat V w:=by have:=gZ.sat 0 h.pos;rwa [lf]at this
 have AF:=de.MZ (de.own _ _ c1);have Dy:=h.pos;refine h.spawn aI gL hx hy rfl rfl ⟨λb=> ?_,λ_ _=> .inr rfl,λ_ _ _=>rfl⟩ rfl rfl rfl (λj S' e=>e) C9 (λi hi kD=> ?_) (.inr rfl) ?_
 ·by_cases e:b=p.c\/b=p.Wg
  ·exact .inl (by simp only[e,if_true])
  ·exact .inr (by simp only[e,if_false])
 ·unfold jf at kD⊢;rw[if_pos rfl]at kD;rw[if_neg (by rw[aI];simp)];rw[bf _ _ (by omega)]at kD;obtain⟨z1,_,z2⟩:=kD;rcases c4 i z1 hi with z|⟨q,z⟩
  ·exact .inr ⟨hi,z⟩
  ·exfalso;rw[z]at z2;rcases z2 with z2|z2|z2|z2
   ·cases z2
   ·omega
   ·cases z2
   ·cases z2
 ·refine⟨a1,a2,a3,a4,a5,a6,λi hi=> ?_,λi i' j b1 b2 b3 b4 b5 b6=> ?_,λj S' b1 b2=> ?_,?_⟩
  ·by_cases fC:i=gs.size
   ·subst fC;rw[bA];exact⟨rfl,AF,rfl,oP,λ_=>rfl⟩
   ·rw[bf _ _ fC,GS.aet (h.ab9 aI hi) Im];have:=a7 i hi;exact⟨this.1,this.2.1,this.2.2.1,this.2.2.2.1,λe=>by rw[h.ab9 aI hi]at e;cases e⟩
  ·rw[aY]at b2 b4;by_cases e1:i=gs.size
   ·subst e1;rw[bA]at b5;cases b5
   ·by_cases e2:i'=gs.size
    ·subst e2;rw[bA]at b6;cases b6
    ·rw[bf _ _ e1]at b5;rw[bf _ _ e2]at b6;exact a8 i i' j b1 (by omega) b3 (by omega) b5 b6
  ·obtain⟨i,e1,e2,e3⟩:=a9 j S' b1 b2;exact⟨i,e1,by omega,by rw[bf _ _ (by omega)];exact e3⟩
  ·show if true=true then _ else _;rw[if_pos rfl];refine⟨⟨by simp,AF,by simp,oP⟩,by omega,by rw[aY];omega,.early,rfl,?_⟩;rw[aY];have e1:sumTo (gs.size+1) (λi=>(upd K gs.size (.head 5 n) i).cnt)=p.Ss.length:=by
    rw[sumTo,bA,<- c6];rw[Vt (g:=λi=>(K i).cnt) λi hi=>by rw[bf _ _ (by omega)]];rfl
   have e2:sumTo (gs.size+1) (λi=>(upd K gs.size (.head 5 n) i).late)=0:=by
    have hz:∀N,sumTo N (λ_=>0)=0:=λN=>(by induction N with|zero=>rfl|succ N ih=>simp[sumTo,ih]);rw[sumTo,bA];rw[Vt (g:=λ_=>0) λi hi=> ?_,hz]
    ·rfl
    ·rw[bf _ _ (by omega)];rcases UL i with rfl|eZ
     ·rw[h.k0];rfl
     ·rcases c4 i eZ hi with z|⟨q,z⟩
      ·cases lz:K i<;>rw[lz]at z<;>first|rfl|cases z
      ·rw[z];rfl
   unfold Mode;simp only[e1,e2,bA];exact .inl ⟨⟨0,de.own _ _ c1⟩,trivial,trivial,a6,de.own _ _ Ax,.inl ⟨5,rfl,by omega⟩⟩
theorem Inv.begin(h:Inv P n0 W0 V gs w t K Im ic none st){c Wg:Nat}(aG:c≠Wg)(hc:V.own c=some (.chan 0 #[] false 0 0 false)) (hW:V.own Wg≠none) (oP:∀o,V.ab Wg o=none):
  Inv P n0 W0 {V with role:=.fork c Wg []} gs w t (λi=>if i<gs.size then K i else .gone 0) Im 0 (some ⟨c,Wg,[],false⟩) (some .early):=by
 obtain⟨dj,gZ,nh,gR⟩:=h.out;have de:Sat V w:=by have:=gZ.sat 0 h.pos;rwa [lf]at this
 have AF:=de.MZ (de.own _ _ hc);have tP:∀i,(∃q,(if i<gs.size then K i else .gone 0)=GS.gone q):=λi=>by
  by_cases hi:i<gs.size
  ·rw[if_pos hi];rcases UL i with rfl|eZ
   ·exact⟨0,h.k0⟩
   ·obtain⟨q,hq,_⟩:=dj i _ eZ (SJ hi);exact⟨q,hq⟩
  ·rw[if_neg hi];exact⟨0,rfl⟩
 have iA:∀{b x},V.own b=some x->n0<=b/\b<w.heap.size:=λ{b x} e=>by
  refine⟨?_,de.lt e⟩;apply Nat.le_of_not_lt;intro hb;have:=gZ.jx 0 h.pos b hb;rw[lf,e]at this;cases this
 obtain⟨xW,hxW⟩:∃x,V.own Wg=some x:=by cases e:V.own Wg with|none=>exact absurd e hW|some x=>exact⟨x,rfl⟩
 have mK:∀i,0<i->((if i<gs.size then K i else .gone 0).view Im)=noView:=λi _=>by obtain⟨q,e⟩:=tP i;rw[e];rfl
 refine Inv.mk' h.pos (by rw[if_pos h.pos];exact h.k0) h.d0 (λi x hi hx=> ?_) ?_ ?_ ?_
 ·have hlt:i<gs.size:=(SR.1 hx).1;obtain⟨q,hq,hy⟩:=dj i x hi hx;show (if i<gs.size then K i else .gone 0).is P c Wg Im [] _ x;rw[if_pos hlt,hq];exact hy
 ·have bp:Core (bH {V with role:=.fork c Wg []} Im (λi=>if i<gs.size then K i else .gone 0)) gs.size w t (sF none) (nF none gs.size ic K) ic n0 W0:=by
   refine(gZ.role (i:=0) (V':={V with role:=.fork c Wg []}) h.pos (by rw[lf]) (by rw[lf])).congr λi hi=> ?_;by_cases eZ:i=0
   ·subst eZ;rw[bA];simp[bH]
   ·rw[bf _ _ eZ];simp[bH,eZ,hi]
  refine⟨bp.sat,bp.dR,?_,bp.tape,bp.os,bp.out,bp.old,bp.jx,bp.n0⟩;refine bp.ti.weaken (SP _) (λi l _ x=> .inl ⟨x.1,x.2.1,λz=>z.elim⟩) (λi l _ x=>⟨x.1,x.2.1,λz=>z.elim⟩) (λidx a ha dl=> ?_);have hk:Wq t 0 idx:=by
   have yX:j5 V a.loc:=by
    have A3:rG c Wg a.loc:=dl;cases hl:a.loc with
    |cell ad=>rw[hl]at A3;have e:ad.block=Wg:=A3;exact⟨by rw[e];exact hW,by rw[e];exact oP _⟩
    |obj r=>rw[hl]at A3;have e:r=c:=A3;show V.own r≠none;rw[e,hc];simp
    |_=>rw[hl]at A3;exact A3.elim
   exact gZ.ti.kw 0 h.pos a.loc ⟨h.pos,by rw[lf];exact yX,λz=>z.elim⟩ idx a ha rfl
  refine⟨λ_ i hi=> ?_,λ_=>hk⟩;have cG:jf ⟨c,Wg,[],false⟩ gs.size 0 (λi=>if i<gs.size then K i else .gone 0) i:=hi;unfold jf at cG;rw[if_neg (by simp)]at cG;rcases cG with rfl|⟨_,e⟩
  ·exact hk
  ·obtain⟨q,eq⟩:=tP i;simp only[eq]at e;cases e
 ·have aP:st=none:=gR;intro idx a ha hm;rcases nh idx a ha hm with z|z|⟨s,e,_⟩
  ·exact .inl z
  ·exact .inr (.inl z)
  ·rw[aP]at e;cases e
 ·refine⟨(iA hc).1,(iA hxW).1,aG,(iA hc).2,(iA hxW).2,by simp,λi hi=> ?_,λi i' j _ _ _ _ b5=> ?_,λj S b1=>by simp at b1,?_⟩
  ·rw[mK i hi];exact⟨rfl,λ_=>rfl,rfl,λ_=>rfl,λe=>by obtain⟨q,eq⟩:=tP i;simp only[eq]at e;cases e⟩
  ·obtain⟨q,eq⟩:=tP i;simp only[eq]at b5;cases b5
  ·show if false=true then _ else _;rw[if_neg (by simp)];refine⟨hc,rfl,rfl,λi _ _=> .inr (tP i),by simp,?_⟩;have hz:∀N,sumTo N (λ_=>0)=0:=λN=>(by induction N with|zero=>rfl|succ N ih=>simp[sumTo,ih]);rw[Vt (g:=λ_=>0) λi _=>by obtain⟨q,eq⟩:=tP i;show (if i<gs.size then K i else GS.gone 0).cnt=0;rw[eq];rfl];exact hz _
theorem Inv.arC(h:Inv P n0 W0 V gs w t K Im ic (some p) st)(aI:p.recv=true)(gL:V.deaf=0){g0 g':SG}{n:Nat}(ba:w.heap[p.c]?=some (.chan 0 #[] true n n false)) {y:Wi} (hy:y.g=0/\y.act=.recvClosed p.c):
  (∀S∈p.Ss,S=[])/\Inv P n0 W0 {V with role:=.plain} (gs.setIfInBounds 0 g') w (t++#[y]) K Im ic none none:=by
 obtain⟨dj,gZ,nh,gR⟩:=h.out;obtain⟨a1,a2,a3,a4,a5,a6,a7,a8,a9,bY⟩:=gR;rw[if_pos aI]at bY;obtain⟨c1,c2,c3,s,c4,c5⟩:=bY;have yL:(∃pp n,s=.shut pp/\t.act? pp=some (.close p.c)/\t.heard pp/\w.heap[p.c]?=some (.chan 0 #[] true n n false))/\(sumTo gs.size λi=>(K i).late)=0/\(sumTo gs.size λi=>(K i).cnt)=0/\(K ic).shape=.gone 0:=by
  have no:¬∃n,w.heap[p.c]?=some (.chan 0 #[] false n n false):=λ⟨m,e⟩=>by rw[ba]at e;simp at e
  unfold Mode at c5;rcases c5 with m|m|m|m|m|m|m
  ·exact absurd m.1 no
  ·exact absurd m.1 no
  ·exact absurd m.1 no
  ·exact absurd m.1 no
  ·exact absurd m.1 no
  ·exact absurd m.1 no
  ·exact m
 obtain⟨⟨pp,n',rfl,m1,m2,_⟩,m3,m4,m5⟩:=yL;have tP:∀i,i<gs.size->∃q,K i=.gone q:=λi hi=>by
  have e1:(K i).cnt<=sumTo gs.size λi=>(K i).cnt:=WG (f:=λi=>(K i).cnt) hi;have e2:(K i).late<=sumTo gs.size λi=>(K i).late:=WG (f:=λi=>(K i).late) hi;rcases UL i with rfl|eZ
  ·exact⟨0,h.k0⟩
  ·have hc:=h.sJ (i:=i) eZ;have z1:(K i).cnt=0:=(by omega);have z2:(K i).late=0:=(by omega);clear e1 e2;cases lz:K i<;>rw[lz]at z1 z2 hc<;>first
    |exact⟨_,rfl⟩
    |(exfalso;simp[GS.cnt]at z1;done)
    |(exfalso;simp[GS.late]at z2;done)
    |(exfalso;have:=hc rfl;subst this;rw[lz]at m5;cases m5)
 have bV:jD p V:=⟨c1.1,c1.2.1,c1.2.2.1,c1.2.2.2⟩;have aS:U0 t 0=0:=by rw[h.d0,gL]
 have n_:∀op∈(#[y]:Up),op.act.touch?=none/\still op.act/\op.act.low w.heap.size/\(∀a,op.act≠ .mark (.release a))/\op.g=0:=by
  intro op ay;simp only[TO,SK,SZ,or_false]at ay;subst ay;rw[hy.2];exact⟨rfl,⟨by simp,by simp⟩,a4,by simp,hy.1⟩
 have bB:∀i,U0 (t++#[y]) i=U0 t i:=λi=>Deaf_still λop ay=>(n_ op ay).2.1;have aY:(gs.setIfInBounds 0 g').size=gs.size:=by simp
 refine⟨λS hS=> ?_,?_⟩
 ·obtain⟨j,hj⟩:=UW.1 hS;apply Tv;intro aG;obtain⟨i,e1,e2,e3⟩:=a9 j S hj aG;obtain⟨q,e⟩:=tP i e2;rw[e]at e3;cases e3
 ·refine Inv.mk' (by rw[aY];exact h.pos) h.k0 (by rw[bB];exact h.d0) (λi x hi hx=> ?_) ?_ ?_ rfl
  ·rw[SW (by omega)]at hx;have hlt:i<gs.size:=(SR.1 hx).1;obtain⟨q,e⟩:=tP i hlt;have hk:(K i).is P p.c p.Wg Im p.Ss (U0 t i) x:=dj i x hi hx;rw[e]at hk;rw[bB];exact⟨q,e,hk⟩
  ·rw[aY];have h1:=(gZ.role (i:=0) (V':={V with role:=.plain}) h.pos (by rw[lf]) (by rw[lf])).congr (Fy:=bH {V with role:=.plain} Im K) λi hi=>by
    by_cases eZ:i=0
    ·subst eZ;rw[bA];simp[bH]
    ·rw[bf _ _ eZ];simp[bH,eZ]
   have acd:∀i l,i<gs.size->gV (bH {V with role:=.plain} Im K i) l->¬rG p.c p.Wg l:=λi l hi hl=>by
    by_cases eZ:i=0
    ·subst eZ;have b':jD p (bH {V with role:=.plain} Im K 0):=(by simp only[bH,if_true];exact bV);exact b'.Bg hl
    ·obtain⟨q,e⟩:=tP i hi;have:bH {V with role:=.plain} Im K i=noView:=(by simp only[bH,eZ,if_false,e];rfl);rw[this]at hl;exact agW.Bg hl
   refine⟨h1.sat,h1.dR,?_,h1.tape,h1.os,h1.out,h1.old,h1.jx,h1.n0⟩;have xb:=h1.ti.mute (u:=#[y]) (N':=gs.size) (rd':=λi l=>i<gs.size/\gV (bH {V with role:=.plain} Im K i) l/\¬sF none l) (wr':=λi l=>i<gs.size/\j5 (bH {V with role:=.plain} Im K i) l/\¬sF none l) (act':=nF (some p) gs.size ic K) (kX:=ic)
    (λop ay=>(n_ op ay).1) (λop ay=>(n_ op ay).2.2.1) (λop ay=>by rw[(n_ op ay).2.2.2.2];exact h.pos) (SP _) (λop ay=>(n_ op ay).2.2.2.1)
    (λi hi l hl idx a ha gN hw=>(h1.ti.kr i hi l ⟨hl.1,hl.2.1,acd i l hi hl.2.1⟩ idx a ha gN hw).app _) (λi hi l hl idx a ha gN=>(h1.ti.kw i hi l ⟨hl.1,hl.2.1,acd i l hi hl.2.1.rd⟩ idx a ha gN).app _)
    (λidx a ha dl=>⟨λhp i hi=>((h1.ti.sp idx a ha dl).1 hp i hi).app _,λhp=>((h1.ti.sp idx a ha dl).2 hp).app _⟩)
   exact xb.weaken (SP _) (λ_ _ _ x=> .inl x) (λ_ _ _ x=>x) (λidx a _ hx=>hx.elim)
  ·have hr:Rest p.Wg t K ic st:=nh;rw[c4]at hr;intro idx a ha hm;have gw:=BI (λop ay=>(n_ op ay).1) ha;obtain⟨op,ay,_⟩:=U1 gw;rcases hr idx a gw hm with z|⟨z1,z2⟩|⟨s,hs,hx⟩
   ·exact .inl (z.app _)
   ·exact .inr (.inl ⟨z1,λz=>z2 ((Wu (TN ay)).1 z)⟩)
   ·cases hs;exact .inl (aho m1 m2 hy aS hx)
theorem Inv.aod(h:Inv P n0 W0 V gs w t K Im ic (some p) st)(aI:p.recv=true)(x:SG):Inv P n0 W0 V (gs.setIfInBounds 0 x) w t K Im ic (some p) st:=by
 obtain⟨dj,gZ,nh,gR⟩:=h.out;obtain⟨a1,a2,a3,a4,a5,a6,a7,a8,a9,bY⟩:=gR;have aY:(gs.setIfInBounds 0 x).size=gs.size:=by simp
 rw[if_pos aI]at bY;obtain⟨c1,c2,c3,s,c4,c5⟩:=bY;refine Inv.mk' (by rw[aY];exact h.pos) h.k0 h.d0 (λi z hi hz=> ?_) (by rw[aY];exact gZ) nh ⟨a1,a2,a3,a4,a5,a6,a7,by rw[aY];exact a8,by rw[aY];exact a9,?_⟩
 ·rw[SW (by omega)]at hz;exact dj i z hi hz
 ·rw[if_pos aI];refine⟨c1,c2,by rw[aY];exact c3,s,c4,?_⟩;rw[aY];have e0:t=t++#[]:=by simp
  rw[e0];exact c5.keep (λ_=>rfl) rfl rfl λsh g hg=>by rw[SW (by omega)]at hg;exact sh g hg
end
def MJ (P:SI)(Post:SQ->Tq->Prop)(n0:Nat)(W0:Tq)(V:View)(g:SG):Prop:=
 g.status=.running/\∀gs w sl t K Im ic ph st,Inv P n0 W0 V gs w t K Im ic ph st->wj V.role ph->kP gs g->Ok P Post (crowd gs w sl) t
section
variable {P:SI}{Post:SQ->Tq->Prop}{n0:Nat}{W0:Tq}
def aeS (P:SI)(Post:SQ->Tq->Prop)(gs:Array SG)(w:Tq)(sl:Option (Nat×Nat))(t:Up):Prop:=
 (∃m' ops,runT P (crowd gs w sl) 0=(.next m',ops)/\Ok P Post m' (t++ops))\/∃o w' ops,runT P (crowd gs w sl) 0=(.ended o w',ops)/\∀w0 EL,W4 P Post (crowd gs w0 EL) o w' (t++ops)
theorem kP.pos{gs:Array SG}{g:SG}(h:kP gs g):∃(i:Nat)(x:SG),gs[i]?=some x/\x.status=.running:=by
 obtain⟨g0,h0,h1,_⟩:=h;exact⟨0,g0,h0,h1⟩
theorem MJ.iQ{V:View}{g:SG}(hg:g.status=.running)(own:∀gs w sl t K Im ic ph st,Inv P n0 W0 V gs w t K Im ic ph st->wj V.role ph->kP gs g->aeS P Post gs w sl t):MJ P Post n0 W0 V g:=by
 refine⟨hg,λgs w sl t K Im ic ph st h hr hm=> ?_⟩;generalize hN:gs.size=N;generalize hμ:((λj=>(K j).dc),flag gs ic)=μ;induction μ using(ab5 N).induction generalizing gs w sl t K st with
 |_ μ ih=>
  obtain⟨i,gi,d,pk,aN,bL,aP⟩:=Z6 (P:=P) (w:=w) (sl:=sl) (h.awake (.inl hm)) hm.pos;have hd:=h.draw d;rcases UL i with rfl|hi
  ·rcases own _ _ pk _ _ _ _ _ _ hd hr hm with⟨m',ops,h1,h2⟩|⟨o,w',ops,h1,h2⟩
   ·exact Ok.step (aP.trans h1) h2
   ·exact Ok.end (aP.trans h1) (h2 w sl)
  ·rcases hd.other (sl:=pk) (.inl hm) hi aN bL with⟨gs',w',ops,K',st',h1,h2,h3,h4,_,h5⟩|⟨p,_,_,jp⟩
   ·have pS:kP gs' g:=by
     cases ph with
     |none=>exact(h4 g 0 (by simp)).1 hm
     |some p=>exact(h4 g p.c (λq hq=>by cases hq;rfl)).1 hm
    exact Ok.step (aP.trans h1) (ih _ (by rw[<- hμ,<- hN];exact h5) gs' w' pk _ K' st' h3 pS (by rw[h2,hN]) rfl)
   ·obtain⟨g0,h0,hs,_⟩:=hm;obtain⟨g1,z,h1,_⟩:=jp;rw[h1]at h0;cases h0;cases hs
theorem MJ.recv{V:View}{g:SG}{c Wg:Nat}{Ss:List (List Spec)}{z:SQ}(jq:V.role=.recv c Wg Ss)(gL:V.deaf=0)(hg:g.status=.running)
  (lI:∀w,Sat V w->stepG P true g w=.comm g #[rcase c z] true (.recv true) w #[])
  (J1:∀(i:Nat) sp S v Im Ow,Ss[i]?=some (sp::S)->sp v Im Ow->(∀b,V.own b≠none->Ow b=none)->(∀b o,V.own b≠none->Im b o≠none->V.ab b o≠none)->(∃w,Sat V w/\(∀b o x,Im b o=some x->w.cell? ⟨b,o,none⟩=some x)/\∀b x,Ow b=some x->w.heap[b]?=some x)->
   MJ P Post n0 W0 (oi V Im Ow (.recv c Wg (Ss.set i S))) (Ua g (.tuple #[v,.bool true])))
  (J2:(∀S∈Ss,S=[])->MJ P Post n0 W0 {V with role:=.plain} (Ua g (.tuple #[z,.bool false]))):MJ P Post n0 W0 V g:=by
 have met:∀{gs w sl t K Im ic st i},Inv P n0 W0 V gs w t K Im ic (some ⟨c,Wg,Ss,true⟩) st->Fv P n0 W0 V gs w sl t Im ic ⟨c,Wg,Ss,true⟩ st g i->∀{m},stepT P m=runT P (crowd gs w sl) i->Ok P Post m t:=by
  rintro gs w sl t K Im ic st i _ ⟨gs',w',ops,K',j,sp,S,v,lh,Ow,h1,h2,h3,h4,h5,h6,h6',h7,h8⟩ m hm
  exact Ok.step (hm.trans h1) ((J1 j sp S v lh Ow h4 h5 h6 h6' h7).2 gs' w' sl _ K' Im ic _ st h8 rfl h3)
 refine⟨hg,λgs w sl t K Im ic ph st h hr hm=> ?_⟩;have gR:ph=some ⟨c,Wg,Ss,true⟩:=by rw[jq]at hr;exact hr
 subst gR
 suffices key:∀N μ gs w sl t K st,Inv P n0 W0 V gs w t K Im ic (some ⟨c,Wg,Ss,true⟩) st->gs.size=N->((λj=>(K j).dc),flag gs ic)=μ->(kP gs g\/(oC gs g c/\Calm gs/\zV w c))->Ok P Post (crowd gs w sl) t from key _ _ gs w sl t K st h rfl rfl (.inl hm)
 clear h hr hm;intro N μ;induction μ using(ab5 N).induction with
 |_ μ ih=>
  have A:∀gs w sl t K st,Inv P n0 W0 V gs w t K Im ic (some ⟨c,Wg,Ss,true⟩) st->gs.size=N->((λj=>(K j).dc),flag gs ic)=μ->oC gs g c->Calm gs->zV w c->Ok P Post (crowd gs w sl) t:=by
   intro gs w sl t K st h hN hμ jp tK ho;have n3:kP gs g\/∃p,some (Phase.mk c Wg Ss true)=some p/\p.recv=true/\V.deaf=0/\oC gs g p.c:=.inr ⟨_,rfl,rfl,gL,jp⟩;have amz:∃(i:Nat)(x:SG),gs[i]?=some x/\x.status=.running:=by
    obtain⟨i,x,_,h1,h2⟩:=h.arG rfl ho tK;exact⟨i,x,h1,h2⟩
   obtain⟨i,gi,d,pk,aN,bL,aP⟩:=Z6 (P:=P) (w:=w) (sl:=sl) (h.awake n3) amz;have hd:=h.draw d;have hi:0<i:=by
    rcases UL i with rfl|hi
    ·obtain⟨g1,z1,h1,_⟩:=jp;rw[h1]at aN;cases aN;cases bL
    ·exact hi
   rcases hd.other (sl:=pk) n3 hi aN bL with⟨gs',w',ops,K',st',h1,h2,h3,h4,h5,h6⟩|⟨p,hp,vz,_⟩
   ·refine Ok.step (aP.trans h1) (ih _ (by rw[<- hμ,<- hN];exact h6) gs' w' pk _ K' st' h3 (by rw[h2,hN]) rfl ?_);rcases(h4 g c (λq hq=>by cases hq;rfl)).2 jp ho with x|⟨x,y⟩
    ·exact .inl x
    ·exact .inr ⟨x,h5 g c jp tK,y⟩
   ·cases hp;exact met hd vz aP
  intro gs w sl t K st h hN hμ pS;rcases pS with hm|⟨h1,h2,h3⟩
  ·obtain⟨i,gi,d,pk,aN,bL,aP⟩:=Z6 (P:=P) (w:=w) (sl:=sl) (h.awake (.inl hm)) hm.pos;have hd:=h.draw d;rcases UL i with rfl|hi
   ·
    obtain⟨g0,h0,l5,lD,iV,nd⟩:=hm;have fE:Sat V (w.at d):=(by have:=hd.core.sat 0 h.pos;rwa [lf]at this);have lH:stepG P (0==0) g0 (w.at d)=.comm g #[rcase c z] true (.recv true) (w.at d) #[]:=(by rw[<- lI _ fE];exact Xi lD iV nd _);have e0:(t++Tc 0 g0.frame.fn g0.frame.place #[])=t:=(by simp[Tc]);rcases hd.opens rfl with⟨n,gQ⟩|⟨alM,⟨n,ba⟩,_⟩
    ·by_cases aaU:∃i j h' V₁ V₂ g1 v z1,0<i/\i<gs.size/\K i=.ox j h' V₁ V₂ g1 v z1
     ·exact met hd (hd.aqy (sl:=pk) rfl gL ⟨g0,h0,l5,lD,iV,nd⟩ (lI _ fE) aaU) aP
     ·have offers:∀m x,0<m->gs[m]?=some x->x.status=.blocked->x.offers=none:=by
       intro m x h_ hx hb;rcases GS.runs (show (K m).is P c Wg Im Ss (U0 t m) x from h.is m x h_ hx)with e|⟨e,_⟩|⟨j,h',V1,V2,g1,v,z1,e⟩|⟨_,_,e⟩
       ·rw[e]at hb;cases hb
       ·rw[e]at hb;cases hb
       ·exact absurd ⟨m,j,h',V1,V2,g1,v,z1,h_,(SR.1 hx).1,e⟩ aaU
       ·exact e
      have hw:=crowd_waits (P:=P) (sl:=pk) (i:=0) h0 lH (λcc jm=>by
       simp only[TO,SK,SZ,or_false]at jm;subst jm;refine ways_recv_none gQ (partners_nil λm x hx=> ?_);rcases Yc gs 0 m x hx with⟨_,rfl⟩|⟨h_,jT⟩
       ·exact Zt _ _
       ·by_cases hb:x.status=.blocked
        ·unfold offersAt;simp[hb,offers m x (by omega) jT hb]
        ·exact U2 hb _ _)
      refine Ok.step (aP.trans hw) ?_;rw[e0];refine A _ (w.at d) pk t K st (hd.aod rfl _) (by simp[hN]) ?_ ⟨g,z,?_,rfl,rfl,rfl⟩ (λm x h_ hx hb=> ?_) ⟨n,gQ⟩
      ·rw[<- hμ];have fX:0<ic:=(by obtain⟨_,_,x,_⟩:=h.mode rfl;exact x);unfold flag;rw[SW (by omega)]
      ·rw[Tb h.pos]
      ·rw[SW (by omega)]at hx;exact offers m x h_ hx hb
    ·have hp:partners (gs.setIfInBounds 0 ph) c true=[]:=partners_nil λm x hx=>by
      rcases Yc gs 0 m x hx with⟨_,rfl⟩|⟨h_,jT⟩
      ·exact Zt _ _
      ·have hlt:m<gs.size:=(SR.1 jT).1;rcases GS.runs (show (K m).is P c Wg Im Ss (U0 t m) x from h.is m x (by omega) jT)with e|⟨e,_⟩|⟨j,h',V1,V2,g1,v,z1,e⟩|⟨_,eb,e⟩
       ·exact U2 (by rw[e];simp) _ _
       ·exact U2 (by rw[e];simp) _ _
       ·have:=alM m (by omega) hlt;rw[e]at this;cases this
       ·unfold offersAt;simp[eb,e]
     have hw:=crowd_recv_closed (P:=P) (sl:=pk) (i:=0) h0 lH ba hp;refine Ok.step (aP.trans hw) ?_;rw[Yx,<- Xv,e0];obtain⟨hS,hinv⟩:=hd.arC rfl gL (g0:=g0) (g':=Ua g (recvd true z false)) ba (y:={g:=0,fn:=g.frame.fn,pos:=g.frame.place,act:=.recvClosed c}) ⟨rfl,rfl⟩;exact(J2 hS).2 _ (w.at d) pk _ K Im ic none none hinv rfl ⟨Ua g (recvd true z false),by rw[Tb h.pos],rfl,rfl,rfl,rfl⟩
   ·rcases hd.other (sl:=pk) (.inl hm) hi aN bL with⟨gs',w',ops,K',st',h1,h2,h3,h4,_,h5⟩|⟨p,_,_,jp⟩
    ·exact Ok.step (aP.trans h1) (ih _ (by rw[<- hμ,<- hN];exact h5) gs' w' pk _ K' st' h3 (by rw[h2,hN]) rfl (.inl ((h4 g c (λq hq=>by cases hq;rfl)).1 hm)))
    ·obtain⟨g0,h0,hs,_⟩:=hm;obtain⟨g1,z1,h1,_⟩:=jp;rw[h1]at h0;cases h0;cases hs
  ·exact A gs w sl t K st h hN hμ h1 h2 h3
theorem aos:Closed true P true (MJ P Post n0 W0)where
 step V g hs h:=by
  refine MJ.iQ hs λgs w sl t K Im ic ph st hI hr ⟨g0,h0,l5,lD,iV,nd⟩=> .inl ?_;have fE:Sat V w:=by have:=hI.core.sat 0 hI.pos;rwa [lf]at this
  obtain⟨g',w',es,V',h1,h2,h3⟩:=h w fE;have aP:stepG P (0==0) g0 w=.go g' w' es:=by rw[<- h1];exact Xi lD iV nd w
  refine⟨_,_,runT_crowd_go h0 aP,h3.2 _ w' sl _ K Im ic ph st (hI.abW h0 h2 hr) (by rw[h2.role];exact hr) ⟨g',?_,h3.1,rfl,rfl,rfl⟩⟩;rw[Tb (by simpa using hI.pos)]
 ghost V V' g hg h:=⟨h.1,λgs w sl t K Im ic ph st hI hr hm=>h.2 gs w sl t K Im ic ph st (hI.aoc hg hr) (by rw[hg.role];exact hr) hm⟩
 send V g c Wg sp S v z B hr hd hs ho h1 h2 h3:=⟨hs,λgs w sl t K Im ic ph st hI cp hm=>by rw[hr]at cp;exact cp.elim⟩
 done V g c Wg hr hd h1:=⟨h1.1,λgs w sl t K Im ic ph st hI cp hm=>by rw[hr]at cp;exact cp.elim⟩
 slip V g g' c Wg hr hs h1 h2:=⟨hs,λgs w sl t K Im ic ph st hI cp hm=>by rw[hr]at cp;exact cp.elim⟩
 more _:={
  start:=λV g c Wg hr aG hc hW oP h=>⟨h.1,λgs w sl t K Im ic ph st hI cp hm=>by
   rw[hr]at cp;cases cp;exact h.2 gs w sl t _ Im 0 _ _ (hI.begin aG hc hW oP) rfl hm⟩
  F':=λV g g' child c Wg Ss sp S hr hd hs hc hW hlen oP aP ff ML h=>by
   refine MJ.iQ hs λgs w sl t K Im ic ph st hI cp ⟨g0,h0,l5,lD,iV,nd⟩=> .inl ?_;rw[hr]at cp;cases cp;have fE:Sat V w:=(by have:=hI.core.sat 0 hI.pos;rwa [lf]at this);have ma:stepG P (0==0) g0 w=.spawn g' child w #[]:=(by rw[<- aP w fE];exact Xi lD iV nd w);obtain⟨hh,hk⟩:=ML _ (att P);have bL:=ae' (P:=P) (sl:=sl) h0 ma;have e0:Tc 0 g0.frame.fn g0.frame.place #[]=#[]:=rfl;rw[e0]at bL;have hinv:=hI.F' (g':=g') (x:={g:=0,fn:=g0.frame.fn,pos:=g0.frame.place,act:=.go gs.size}) (y:={g:=gs.size,fn:=child.frame.fn,pos:=g0.frame.place,act:=.start}) rfl hd ⟨rfl,rfl⟩ ⟨rfl,rfl⟩ hlen oP hk;exact⟨_,_,bL,h.2 _ w sl _ _ Im ic _ _ hinv rfl ⟨g',by rw[Xl,if_neg (by simp;have:=hI.pos;omega),Tb hI.pos],h.1,rfl,rfl,rfl⟩⟩
  F_:=λV g g' child c Wg Ss hr hd hs aG hc hW AF oP aP ff ba h=>by
   refine MJ.iQ hs λgs w sl t K Im ic ph st hI cp ⟨g0,h0,l5,lD,iV,nd⟩=> .inl ?_;rw[hr]at cp;cases cp;have fE:Sat V w:=(by have:=hI.core.sat 0 hI.pos;rwa [lf]at this);have ma:stepG P (0==0) g0 w=.spawn g' child w #[]:=(by rw[<- aP w fE];exact Xi lD iV nd w);obtain⟨n,hk⟩:=ba;have bL:=ae' (P:=P) (sl:=sl) h0 ma;have e0:Tc 0 g0.frame.fn g0.frame.place #[]=#[]:=rfl;rw[e0]at bL;have hinv:=hI.F_ (g':=g') (x:={g:=0,fn:=g0.frame.fn,pos:=g0.frame.place,act:=.go gs.size}) (y:={g:=gs.size,fn:=child.frame.fn,pos:=g0.frame.place,act:=.start}) rfl hd ⟨rfl,rfl⟩ ⟨rfl,rfl⟩ hW oP hk;exact⟨_,_,bL,h.2 _ w sl _ _ V.ab gs.size _ _ hinv rfl ⟨g',by rw[Xl,if_neg (by simp;have:=hI.pos;omega),Tb hI.pos],h.1,rfl,rfl,rfl⟩⟩
  recv:=λV g c Wg Ss z hr hd hs ho aP j1 j2=>MJ.recv hr hd hs aP j1 j2}
structure Left (n0:Nat)(W0 w:Tq):Prop where
 tape:w.tape=W0.tape
 os:w.os=W0.os
 out:w.output=W0.output
 old:∀b,b<n0->w.heap[b]?=W0.heap[b]?
 size:n0<=w.heap.size
theorem Inv.KH{V:View}{gs:Array SG}{w:Tq}{t:Up}{K:Nat->GS}{Im:cE}{ic:Nat}{st:Option eB}(h:Inv P n0 W0 V gs w t K Im ic none st){v:SQ}(hp:Post v w)(w0:Tq)(EL:Option (Nat×Nat)):W4 P Post (crowd gs w0 EL) (.done v) w t:=by
 obtain⟨dj,gZ,nh,aP⟩:=h.out;have ma:st=none:=aP;refine⟨v,rfl,hp,gZ.ti.nr,?_,⟨?_,rfl⟩,?_⟩
 ·intro i g hg l5 ⟨x,hx,hm,hk⟩;rcases nh i x hx hm with⟨q,z,h1,h2,h3⟩|⟨h1,h2⟩|⟨_,h1,_⟩
  ·rcases h3 with rfl|h3
   ·exfalso;simp only[WE,h1,UU,Tl]at hg;omega
   ·exact⟨q,by simp[WE,h1,h2],h3⟩
  ·rcases hk with hk|hk
   ·exact absurd h1 hk
   ·exact absurd hk h2
  ·rw[ma]at h1;cases h1
 ·intro g hg;obtain⟨i,hi⟩:=UW.1 hg;rw[Us]at hi;have cG:gs[1+i]?=some g:=by simpa[crowd]using hi
  obtain⟨q,_,hq⟩:=dj (1+i) g (by omega) cG;exact⟨q,hq.leaves⟩
 ·intro i g hi eZ;obtain⟨q,_,hq⟩:=dj i g (by omega) hi;exact⟨q,hq.hears _⟩
theorem MJ.end{V:View}{g:SG}(hg:g.status=.running)(hr:V.role=.plain)
  (h:∀w,Sat V w->Left n0 W0 w->(∀b,b<n0->V.own b=none)->∃v w' es V',stepG P true g w=.ended (.done v) w' es/\dh V w V' w' es/\Post v w'):MJ P Post n0 W0 V g:=by
 refine MJ.iQ hg λgs w sl t K Im ic ph st hI cp ⟨g0,h0,l5,lD,iV,nd⟩=> .inr ?_;have gZ:=hI.out.2.1;have fE:Sat V w:=by have:=hI.core.sat 0 hI.pos;rwa [lf]at this
 obtain⟨v,w',es,V',h1,h2,h3⟩:=h w fE ⟨gZ.tape,gZ.os,gZ.out,gZ.old,gZ.n0⟩ (λb hb=>by have:=gZ.jx 0 hI.pos b hb;rwa [lf]at this);have aP:stepG P (0==0) g0 w=.ended (.done v) w' es:=by rw[<- h1];exact Xi lD iV nd w
 refine⟨_,w',_,runT_crowd_ended h0 aP,λw0 EL=> ?_⟩;have gR:ph=none:=by rw[hr]at cp;exact cp
 subst gR;have hinv:=hI.abW (g':=g0) h0 h2 cp;have tO:=hinv.KH (Post:=Post) h3 w0 EL;obtain⟨v',e,hp,hn,hh,hl,hd⟩:=tO;refine⟨v',e,hp,hn,hh,⟨?_,rfl⟩,?_⟩
 ·intro g Lx;obtain⟨i,hi⟩:=UW.1 Lx;rw[Us]at hi;have cG:gs[1+i]?=some g:=by simpa[crowd]using hi
  obtain⟨q,_,hq⟩:=hI.out.1 (1+i) g (by omega) cG;exact⟨q,hq.leaves⟩
 ·intro i g hi eZ;obtain⟨q,_,hq⟩:=hI.out.1 i g (by omega) hi;refine⟨q,?_⟩;have:(t++Tc 0 g0.frame.fn g0.frame.place es).deaf i (t++Tc 0 g0.frame.fn g0.frame.place es).size=U0 t i:=
   avs t (g:=i) (g':=0) (by omega) _ λop ay=>by obtain⟨e,_,rfl⟩:=TQ ay;rfl
  rw[this];exact hq.hears _
theorem Inv.init(W:Tq){V:View}(ho:V.own=λ_=>none)(hd:V.deaf=0)(hs:Sat V W)(g:SG):Inv P W.heap.size W V #[g] W #[] (λ_=> .gone 0) V.ab 0 none none:=by
 have fD:∀i,i<(1:Nat)->bH V V.ab (λ_=> .gone 0) i=V:=λi hi=>by
  obtain rfl:i=0:=by omega
  simp[bH]
 refine Inv.mk' (by simp) rfl (by rw[hd];rfl) (λi x hi hx=> ?_) ⟨λi hi=>by rw[fD i hi];exact hs,λi j hi hj kI=> ?_,?_,rfl,rfl,rfl,λ_ _=>rfl,λi hi b _=>by rw[fD i hi,ho],SP _⟩ ?_ rfl
 ·exfalso;have:=(SR.1 hx).1;simp at this;omega
 ·simp at hi hj;omega
 ·refine⟨λsaid hr=> ?_,by simp,by simp,by simp,λi _ l _ idx a ha=> ?_,λi _ l _ idx a ha=> ?_,λidx a ha=> ?_⟩
  ·obtain⟨i,j,_,⟨a,b,ha,_⟩,_⟩:=hr;obtain⟨op,ay,_⟩:=U1 ha;simp at ay
  ·obtain⟨op,ay,_⟩:=U1 ha;simp at ay
  ·obtain⟨op,ay,_⟩:=U1 ha;simp at ay
  ·obtain⟨op,ay,_⟩:=U1 ha;simp at ay
 ·intro idx a ha _;obtain⟨op,ay,_⟩:=U1 ha;simp at ay
theorem akr{f:TS}{args:Array SQ}{W:Tq}{V:View}{R:Out->View->Prop}(hi:P.inits.idxOf? f=none)(ho:V.own=λ_=>none)(hd:V.deaf=0)(cp:V.role=.plain)(hs:Sat V W)(h:Body true P f args .normal V R)
  (hR:∀o V',R o V'->V'.role=.plain/\∃v,o=.ret v/\∀w,Sat V' w->Left W.heap.size W w->Post v w):
  ∃M last o w' t',runNT P (M+1) (solo (G (Frame.enter P f args .normal) []) W) #[]=(.ended o w',t')/\runN P M (solo (G (Frame.enter P f args .normal) []) W)=.next last/\step P last=.ended o w'/\W4 P Post last o w' t':=by
 have hJ:MJ P Post W.heap.size W V (G (Frame.enter P f args .normal) []):=by
  refine h true _ aos [] λo V' fr r hl=> ?_;obtain⟨hr,v,rfl,hp⟩:=hR _ _ r;obtain⟨rfl,bB,hk,fn,hf,hm,gC⟩:=hl;refine MJ.end rfl hr λw hw AR hold=> ?_;obtain⟨es,w',aU,h1,h2,h3⟩:=gC.runs hw;rcases h3 with⟨x,h3,rfl,rfl⟩|⟨_,_,hx⟩
  ·refine⟨x,w',seen P fr.fn es,aU,by simp[G,stepG,unwind,doReturn,hm,bB,hk,hf,h3,h2,T_,hi],h1.seen P fr.fn,?_⟩;refine hp w' h1.sat ⟨h1.tape.trans AR.tape,h1.os.trans AR.os,h1.output.trans AR.out,λb hb=> ?_,TV AR.size h1.size⟩;rw[h1.frame b (Te hb AR.size) (hold b hb)];exact AR.old b hb
  ·exact hx.elim
 exact hJ.2 #[_] W none #[] _ _ _ none none (Inv.init W ho hd hs _) (by rw[cp];rfl) ⟨_,rfl,rfl,rfl,rfl,rfl⟩
end
def gD (P:SI)(main:Bool)(g:SG):SG:=match stepG P main g default with
 |.go g' _ _=>g'
 |_=>g
def Bh (P:SI)(main:Bool)(g:SG):Array Uu:=match stepG P main g default with
 |.go _ _ es=>es
 |_=>#[]
def cI (P:SI)(main:Bool):Nat->SG->SG
 |0,g=>g
 |n+1,g=>cI P main n (gD P main g)
def fQ (P:SI)(main:Bool)(w:Tq):Nat->SG->List ZL
 |0,_=>[]
 |n+1,g=>stepG P main g w::fQ P main w n (gD P main g)
def fJ (P:SI)(main:Bool)(w:Tq):Nat->SG->List ZL
 |0,_=>[]
 |n+1,g=> .go (gD P main g) w (Bh P main g)::fJ P main w n (gD P main g)
def bQ (g:SG):Bool:=match g.status with
 |.running=>true
 |_=>false
theorem bQ.out{g:SG}(h:bQ g=true):g.status=.running:=by
 unfold bQ at h;split at h
 ·assumption
 ·cases h
def ja (P:SI)(main:Bool):Nat->SG->Bool
 |0,_=>true
 |n+1,g=>bQ g&&(Bh P main g).all WK&&ja P main n (gD P main g)
def pf (P:SI)(main:Bool):Nat->SG->Bool
 |0,_=>true
 |n+1,g=>bQ g&&(Bh P main g).isEmpty&&pf P main n (gD P main g)
def j8 (P:SI)(main:Bool):Nat->Nat->SG->Nat
 |0,d,_=>d
 |n+1,d,g=>j8 P main n (deafBehind d (Bh P main g)) (gD P main g)
section
variable {P:SI}
theorem NF{n:Nat}{main:Bool}{g:SG}(h:ja P main (n+1) g=true):g.status=.running/\(∀e∈Bh P main g,WK e=true)/\ja P main n (gD P main g)=true:=by
 simp only[ja,Tg]at h;exact⟨bQ.out h.1.1,λe he=>UQ.1 h.1.2 e he,h.2⟩
theorem xv{Stop:Nat->SG->Prop}:∀(n d:Nat)(g:SG),(∀w,fQ P false w n g=fJ P false w n g)->ja P false n g=true->(∃m,cV P Stop m (j8 P false n d g) (cI P false n g))->∃m,cV P Stop m d g
 |0,d,g,_,_,hs=>hs
 |n+1,d,g,h,hm,hs=>by
  obtain⟨h1,h2,h3⟩:=NF hm;obtain⟨m,hm⟩:=xv n _ (gD P false g) (λw=>(VB (h w)).2) h3 hs;exact⟨m+1,.inr ⟨h1,_,_,h2,λw=>(VB (h w)).1,hm⟩⟩
theorem adw{Wg:Nat}{Stop:Nat->SG->Prop}:∀(n d:Nat)(g:SG),(∀w,fQ P false w n g=fJ P false w n g)->ja P false n g=true->(∃m,iu P Wg Stop m (j8 P false n d g) (cI P false n g))->∃m,iu P Wg Stop m d g
 |0,d,g,_,_,hs=>hs
 |n+1,d,g,h,hm,hs=>by
  obtain⟨h1,h2,h3⟩:=NF hm;obtain⟨m,hm⟩:=adw n _ (gD P false g) (λw=>(VB (h w)).2) h3 hs;exact⟨m+1,.inr ⟨h1,_,_,h2,λw _ _ _=>(VB (h w)).1,hm⟩⟩
theorem adx{Wg:Nat}{Stop:Nat->SG->Prop}{d:Nat}{g g':SG}(hr:g.status=.running)(h:∀w x y,WgAt P Wg w x y->stepG P false g w=.go g' w #[]) (hs:∃m,iu P Wg Stop m d g'):∃m,iu P Wg Stop m d g:=by
 obtain⟨m,hm⟩:=hs;exact⟨m+1,.inr ⟨hr,g',#[],by simp,h,by simpa[deafBehind]using hm⟩⟩
theorem Ih:∀(n d:Nat)(g:SG),(∀w,fQ P false w n g=fJ P false w n g)->ja P false n g=true->(∃q,Y_ P q (j8 P false n d g) (cI P false n g))->∃q,Y_ P q d g
 |0,d,g,_,_,hs=>hs
 |n+1,d,g,h,hm,hs=>by
  obtain⟨h1,h2,h3⟩:=NF hm;obtain⟨m,hm⟩:=Ih n _ (gD P false g) (λw=>(VB (h w)).2) h3 hs;exact⟨m+1,.inr ⟨h1,_,_,h2,λw=>(VB (h w)).1,hm⟩⟩
theorem Oj{d:Nat}{g:SG}(h:g.status=.finished)(hd:d=0):∃q,Y_ P q d g:=⟨0,h,hd⟩
theorem aqu{n:Nat}{main:Bool}{g:SG}(h:pf P main (n+1) g=true):g.status=.running/\Bh P main g=#[]/\pf P main n (gD P main g)=true:=by
 simp only[pf,Tg]at h;exact⟨bQ.out h.1.1,by simpa using h.1.2,h.2⟩
theorem uh{lv main:Bool}{J:View->SG->Prop}(C:Closed lv P main J){V:View}:∀(n:Nat)(g:SG),(∀w,fQ P main w n g=fJ P main w n g)->pf P main n g=true->J V (cI P main n g)->J V g
 |0,g,_,_,hs=>hs
 |n+1,g,h,hm,hs=>by
  obtain⟨h1,h2,h3⟩:=aqu hm;refine C.idle h1 (λw=> ?_) (uh C n (gD P main g) (λw=>(VB (h w)).2) h3 hs);rw[(VB (h w)).1,h2]
theorem Closed.mute{lv main:Bool}{J:View->SG->Prop}(C:Closed lv P main J){V:View}{g g':SG}{m:Mark}(hm:m=.disable\/m=.enable)(hr:g.status=.running)(h:∀w,stepG P main g w=.go g' w #[⟨.mark m,false,true⟩]) (hJ:J {V with deaf:=deafBehind V.deaf #[⟨.mark m,false,true⟩]} g'):J V g:=by
 refine C.step _ _ hr λw hw=> ?_;have hs:=arm (P:=P) (V:=V) (k:=(.pure ():Sem Unit)) (K:=λ_ V'=>V'={V with deaf:=deafBehind V.deaf #[⟨.mark m,false,true⟩]}) (Kp:=λ_ _=>False) hm (cM rfl);obtain⟨es,w',V',k1,k2,k3⟩:=hs.runs hw;rcases k3 with⟨x,k3,rfl⟩|⟨_,_,hx⟩
 ·have e1:Yi () w=Yi x w':=k3;have e2:es=#[⟨.mark m,false,true⟩]:=k2.symm;cases e1;subst e2;refine⟨g',w,_,_,h w,?_,hJ⟩;rwa [un (by rcases hm with rfl|rfl<;>simp)]at k1
 ·exact hx.elim
def ready (g:SG):Option Tx:=match g with
 |{frame:={fn:=_,tmps,todo:=.inRegion ops (i::_)::_,defers:=_,mode:=.run,kind,roundOf:=none},callers:=_,status:=.running,dying:=none,offers:=none}=>
  match ops[i]?with
  |some o=>if Ti o (yielded ops tmps)&& !(kind== .early)then some o else none
  |none=>none
 |_=>none
def fin (g:SG)(v:SQ):SG:={g with frame:=g.frame.finish v}
theorem ready.out{g:SG}{o:Tx}(h:ready g=some o):∃(b:Uf)(a:Act)(ops:Array Tx)(i:Nat)(rest:List Nat)(k:List WX)(cs:List Uf),g=G (b.at a (.inRegion ops (i::rest)::k)) cs/\ops[i]?=some o/\Ti o (yielded ops a.tmps)=true/\b.kind≠ .early/\a.eval=g.frame.eval/\
  (∀v,G (b.at (a.put o.dst v) (.inRegion ops rest::k)) cs=fin g v)/\b.fn=g.frame.fn/\g.status=.running:=by
 unfold ready at h;split at h
 ·rename_i fn tmps ops i rest k defers kind cs;split at h
  ·rename_i o' ho;split at h
   ·rename_i hw;cases h;simp only[Tg,T4,beq_eq_false_iff_ne,ne_eq]at hw;refine⟨{(default:Uf)with fn,kind},⟨tmps,defers⟩,ops,i,rest,k,cs,rfl,ho,hw.1,hw.2,?_,λv=> ?_,rfl,rfl⟩
    ·funext x;cases x<;>rfl
    ·unfold fin;have:=Frame.finish_at {(default:Uf)with fn,kind} ⟨tmps,defers⟩ ops i rest k v;rw[ho]at this;simp only[Frame.at,Option.bind_some]at this⊢;rw[this];rfl
   ·cases h
  ·cases h
 ·cases h
def cD (g:SG):Option (TS×Array SQ):=match ready g with
 |some {op:=.call {callee:=.value (.func f),args, .. }, .. }=>some (f,args.map g.frame.eval)
 |_=>none
theorem cD.out{g:SG}{f:TS}{vs:Array SQ}(h:cD g=some (f,vs)):∃o aF mw,ready g=some o/\o.op=.call {callee:=.value (.func f),args:=aF,argTypes:=mw}/\aF.map g.frame.eval=vs:=by
 unfold cD at h;split at h
 ·rename_i f' aF mw dst ty pos af gd ho;cases h;exact⟨_,_,_,ho,rfl,rfl⟩
 ·cases h
structure Ext (P:SI)(f:TS)(e:Array SQ->Sem SQ):Prop where
 fn : ∃ fn, P.funcs[f]? = some fn /\ (fn.name == "runtime.NumGoroutine") = false /\ fn.body.isNone = true /\ Extern.findNext fn = none /\ Extern.find fn = some e
variable {main:Bool}{g:SG}{f:TS}{w:Tq}
theorem adA{v d:Int}{k:T8}{ad:Va}(h:cD g=some (f,#[.pointer (some ad),.int k d])) (he:Ext P f (XU (avz .add) k true)) (hc:w.cell? ad=some (.int k v)) (hz:w.frozen? ad=false):
  stepG P main g w=.go (fin g (.int k (k.wrap (v+d)))) (w.setCell ad (.int k (k.wrap (v+d)))) #[⟨.cell ad,false,true⟩,⟨.cell ad,true,true⟩]:=by
 obtain⟨o,aF,mw,h1,h2,h3⟩:=cD.out h;obtain⟨b,a,ops,i,rest,kk,cs,e,q1,q2,q3,q4,q5,q6,_⟩:=ready.out h1;obtain⟨fn,f1,f2,f3,f4,f5⟩:=he.fn;rw[<- q4]at h3;rw[<- q5];refine VM (congrArg (λx=>stepG P main x w) e) ?_;exact ZM q1 q2 q3 h2 f1 f2 f3 f4 f5 (by rw[h3];exact run_add_entry hc hz) (by rw[h3,events_add_entry hc hz];rfl) (sync_rw ad)
theorem OK{v:Int}{k:T8}{ad:Va}(h:cD g=some (f,#[.pointer (some ad)])) (he:Ext P f (X6 (.int k))) (hc:w.cell? ad=some (.int k v)):
  stepG P main g w=.go (fin g (.int k v)) w #[⟨.cell ad,false,true⟩]:=by
 obtain⟨o,aF,mw,h1,h2,h3⟩:=cD.out h;obtain⟨b,a,ops,i,rest,kk,cs,e,q1,q2,q3,q4,q5,q6,_⟩:=ready.out h1;obtain⟨fn,f1,f2,f3,f4,f5⟩:=he.fn;rw[<- q4]at h3;rw[<- q5];refine VM (congrArg (λx=>stepG P main x w) e) ?_;obtain⟨x,rfl⟩:∃x,aF=#[x]:=by
  have:aF.size=1:=by have:=congrArg ag2 h3;simpa using this
  exact Array.size_eq_one_iff.1 this
 exact stepG_load_atomic q1 q2 q3 h2 f1 f2 f3 f4 k f5 (by simpa using h3) hc
theorem arX{v:Int}{u:SQ}{k:T8}{ad:Va}(h:cD g=some (f,#[.pointer (some ad),.int k v])) (he:Ext P f XV) (hc:w.cell? ad=some u) (hz:w.frozen? ad=false):
  stepG P main g w=.go (fin g (.tuple #[])) (w.setCell ad (.int k v)) #[⟨.cell ad,true,true⟩]:=by
 obtain⟨o,aF,mw,h1,h2,h3⟩:=cD.out h;obtain⟨b,a,ops,i,rest,kk,cs,e,q1,q2,q3,q4,q5,q6,_⟩:=ready.out h1;obtain⟨fn,f1,f2,f3,f4,f5⟩:=he.fn;rw[<- q4]at h3;rw[<- q5];refine VM (congrArg (λx=>stepG P main x w) e) ?_;obtain⟨x,y,rfl⟩:∃x y,aF=#[x,y]:=by
  have:aF.toList.length=2:=by have:=congrArg ag2 h3;simpa using this
  obtain⟨l⟩:=aF
  match l,this with
  |[x,y],_=>exact⟨x,y,rfl⟩
 have wI:a.eval x=.pointer (some ad)/\a.eval y=.int k v:=by simpa using h3
 exact stepG_store_atomic q1 q2 q3 h2 f1 f2 f3 f4 f5 wI.1 wI.2 hc hz
theorem arQ{v n:Int}{k:T8}{ad:Va}(h:cD g=some (f,#[.pointer (some ad),.int k v,.int k n])) (he:Ext P f (WY (.int k))) (hc:w.cell? ad=some (.int k v)) (hz:w.frozen? ad=false):
  stepG P main g w=.go (fin g (.bool true)) (w.setCell ad (.int k n)) #[⟨.cell ad,false,true⟩,⟨.cell ad,true,true⟩]:=by
 obtain⟨o,aF,mw,h1,h2,h3⟩:=cD.out h;obtain⟨b,a,ops,i,rest,kk,cs,e,q1,q2,q3,q4,q5,q6,_⟩:=ready.out h1;obtain⟨fn,f1,f2,f3,f4,f5⟩:=he.fn;rw[<- q4]at h3;rw[<- q5];refine VM (congrArg (λx=>stepG P main x w) e) ?_;exact ZM q1 q2 q3 h2 f1 f2 f3 f4 f5 (by rw[h3,aa_];exact run_cas_hit_entry hc hz) (by rw[h3,aa_,events_cas_hit_entry hc hz];rfl) (sync_rw ad)
theorem arR{v old n:Int}{k:T8}{ad:Va}(h:cD g=some (f,#[.pointer (some ad),.int k old,.int k n])) (he:Ext P f (WY (.int k))) (hc:w.cell? ad=some (.int k v)) (hz:w.frozen? ad=false) (aG:¬v=old):
  stepG P main g w=.go (fin g (.bool false)) w #[⟨.cell ad,false,true⟩]:=by
 obtain⟨o,aF,mw,h1,h2,h3⟩:=cD.out h;obtain⟨b,a,ops,i,rest,kk,cs,e,q1,q2,q3,q4,q5,q6,_⟩:=ready.out h1;obtain⟨fn,f1,f2,f3,f4,f5⟩:=he.fn;rw[<- q4]at h3;rw[<- q5];refine VM (congrArg (λx=>stepG P main x w) e) ?_;exact ZM q1 q2 q3 h2 f1 f2 f3 f4 f5 (by rw[h3,aa_];exact run_cas_miss_entry hc hz aG) (by rw[h3,aa_,events_cas_miss_entry hc hz aG];rfl) (sync_r ad)
theorem arV{n:Int}{x y:SQ}{ad:Va}(h:cD g=some (f,#[.pointer (some ad),x,y])) (he:Ext P f XT) (hc:w.cell? ad=some (.int .u32 n)) (hz:w.frozen? ad=false):
  stepG P main g w=.go (fin g (.tuple #[])) (w.setCell ad (.int .u32 (an_.wrap (n+1)))) (semEvents ad):=by
 obtain⟨o,aF,mw,h1,h2,h3⟩:=cD.out h;obtain⟨b,a,ops,i,rest,kk,cs,e,q1,q2,q3,q4,q5,q6,_⟩:=ready.out h1;obtain⟨fn,f1,f2,f3,f4,f5⟩:=he.fn;rw[<- q4]at h3;rw[<- q5];refine VM (congrArg (λx=>stepG P main x w) e) ?_;exact stepG_semrelease q1 q2 q3 h2 f1 f2 f3 f4 f5 (by rw[h3];rfl) hc hz
theorem arU{n:Int}{x:SQ}{ad:Va}(h:cD g=some (f,#[.pointer (some ad),x])) (he:Ext P f WJ) (hc:w.cell? ad=some (.int .u32 n)) (hn:n≠0) (hz:w.frozen? ad=false):
  stepG P main g w=.go (fin g (.tuple #[])) (w.setCell ad (.int .u32 (n-1))) (semEvents ad):=by
 obtain⟨o,aF,mw,h1,h2,h3⟩:=cD.out h;obtain⟨b,a,ops,i,rest,kk,cs,e,q1,q2,q3,q4,q5,q6,_⟩:=ready.out h1;obtain⟨fn,f1,f2,f3,f4,f5⟩:=he.fn;rw[<- q4]at h3;rw[<- q5];refine VM (congrArg (λx=>stepG P main x w) e) ?_;exact stepG_semacquire q1 q2 q3 h2 f1 f2 f3 f4 f5 (by rw[h3];rfl) hc hn hz
theorem arW{x:SQ}{ad:Va}(h:cD g=some (f,#[.pointer (some ad),x])) (he:Ext P f WJ) (hc:w.cell? ad=some (.int .u32 0)):
  stepG P main g w=.go {g with status:=.blocked} w #[]:=by
 obtain⟨o,aF,mw,h1,h2,h3⟩:=cD.out h;obtain⟨b,a,ops,i,rest,kk,cs,e,q1,q2,q3,q4,q5,q6,_⟩:=ready.out h1;obtain⟨fn,f1,f2,f3,f4,f5⟩:=he.fn;rw[<- q4]at h3;rw[e];exact stepG_semacquire_wait q1 q2 h2 f1 f2 f3 f4 f5 (by rw[h3];rfl) hc
theorem Iv{ad:Va}(mk:Va->Mark)(hm:∀ad g,mk ad≠ .extern g)(h:cD g=some (f,#[.pointer (some ad)])) (he:Ext P f (VL mk)):
  stepG P main g w=.go (fin g (.tuple #[])) w #[⟨.mark (mk ad),false,true⟩]:=by
 obtain⟨o,aF,mw,h1,h2,h3⟩:=cD.out h;obtain⟨b,a,ops,i,rest,kk,cs,e,q1,q2,q3,q4,q5,q6,_⟩:=ready.out h1;obtain⟨fn,f1,f2,f3,f4,f5⟩:=he.fn;rw[<- q4]at h3;rw[<- q5];refine VM (congrArg (λx=>stepG P main x w) e) ?_;exact stepG_markAt mk hm q1 q2 q3 h2 f1 f2 f3 f4 f5 (by rw[h3];rfl)
def pD (g:SG):Option (TypeId×TypeId×SQ):=match ready g with
 |some {op:=.convert s d x, .. }=>some (s,d,g.frame.eval x)
 |_=>none
theorem Iw{src dst t:TypeId}{ad:Va}{v:SQ}(h:pD g=some (src,dst,.pointer (some ad)))(hs:P.underlying src=some (.pointer t))(hd:P.underlying dst=some .unsafePointer)(aY:(P.info? t).map (λi=>decide (i.size=0))=some false)(hc:w.cell? ad=some v):
  stepG P main g w=.go (fin g (.pointer (some ad))) w #[]:=by
 obtain⟨o,x,h1,h2,h3⟩:∃o x,ready g=some o/\o.op=.convert src dst x/\g.frame.eval x=.pointer (some ad):=by
  unfold pD at h;split at h
  ·rename_i s d x _ _ _ _ ho;simp only[Tl,U8]at h;obtain⟨rfl,rfl,h⟩:=h;exact⟨_,x,ho,rfl,h⟩
  ·cases h
 obtain⟨b,a,ops,i,rest,kk,cs,e,q1,q2,q3,q4,q5,q6,_⟩:=ready.out h1;rw[<- q4]at h3;rw[<- q5];refine VM (congrArg (λx=>stepG P main x w) e) ?_;have hr:(execOp a.eval o).run P w=.ok (.value (.pointer (some ad))) w:=by
  unfold execOp;simp only[h2,h3];simp[run_convert_to_unsafe hs hd aY hc]
 have ce:(execOp a.eval o).events P w #[]=#[]:=by
  unfold execOp;simp only[h2,h3];simp[events_convert_to_unsafe hs hd aY hc]
 rw[avr q1 q2 q3 hr];unfold listed;rw[ce,ae_]
end
open Go.Proofs
section
variable {P:SI}
theorem OG{Stop:Nat->SG->Prop}{d:Nat}{g g':SG}{es:Array Uu}(hr:g.status=.running)(hm:∀e∈es,WK e=true)(h:∀w,stepG P false g w=.go g' w es)(hs:∃m,cV P Stop m (deafBehind d es) g'):∃m,cV P Stop m d g:=by
 obtain⟨m,hs⟩:=hs;exact⟨m+1,.inr ⟨hr,g',es,hm,h,hs⟩⟩
theorem Iu{main:Bool}{g:SG}{f:TS}{w:Tq}{m:Mark}(hm:∀g,m≠ .extern g)(h:cD g=some (f,#[])) (he:Ext P f (λ_=>do ah' m;pure Xa)):stepG P main g w=.go (fin g (.tuple #[])) w #[⟨.mark m,false,true⟩]:=by
 obtain⟨o,xs,mw,h1,h2,h3⟩:=cD.out h;obtain⟨b,a,ops,i,rest,kk,cs,e,q1,q2,q3,q4,q5,q6,_⟩:=ready.out h1;obtain⟨fn,f1,f2,f3,f4,f5⟩:=he.fn;rw[<- q4]at h3;rw[<- q5];refine VM (congrArg (λx=>stepG P main x w) e) ?_;exact stepG_mark0 m hm q1 q2 q3 h2 f1 f2 f3 f4 f5
theorem adB{main:Bool}{g:SG}{f:TS}{w:Tq}{v:SQ}{vs:Array SQ}(h:cD g=some (f,vs))(he:Ext P f (λ_=>pure v)):stepG P main g w=.go (fin g v) w #[]:=by
 obtain⟨o,xs,mw,h1,h2,h3⟩:=cD.out h;obtain⟨b,a,ops,i,rest,kk,cs,e,q1,q2,q3,q4,q5,q6,_⟩:=ready.out h1;obtain⟨fn,f1,f2,f3,f4,f5⟩:=he.fn;rw[<- q5];refine VM (congrArg (λx=>stepG P main x w) e) ?_;exact stepG_entry_pure v q1 q2 q3 h2 f1 f2 f3 f4 f5
theorem WgAt.st{Wg:Nat}{w:Tq}{st sm:Int}(h:WgAt P Wg w st sm):w.cell? ⟨Wg,0,none⟩=some (.int .u64 st)/\w.cell? ⟨Wg,1,none⟩=some (.int .u32 sm)/\w.frozen? ⟨Wg,0,none⟩=false/\w.frozen? ⟨Wg,1,none⟩=false:=by
 unfold WgAt wgBlock at h;refine⟨?_,?_,?_,?_⟩<;>simp[UC,Z1,h]
theorem NG{m:Mark}(hm:m=.disable\/m=.enable):∀e∈(#[⟨.mark m,false,true⟩]:Array Uu),WK e=true:=by
 intro e he;simp only[TO,SK,SZ,or_false]at he;subst he;rcases hm with rfl|rfl<;>rfl
end
set_option maxRecDepth 100000
theorem ahU:Ext SA 110 (VL .releaseMerge):=⟨⟨Tryz.f110,by kernel_rfl,by kernel_rfl,by kernel_rfl,by kernel_rfl,by kernel_rfl⟩⟩
theorem JW:Ext SA 111 (λ_=>do ah' .disable;pure Xa):=⟨⟨Tryz.f111,by kernel_rfl,by kernel_rfl,by kernel_rfl,by kernel_rfl,by kernel_rfl⟩⟩
theorem ahV:Ext SA 112 (λ_=>do ah' .enable;pure Xa):=⟨⟨Tryz.f112,by kernel_rfl,by kernel_rfl,by kernel_rfl,by kernel_rfl,by kernel_rfl⟩⟩
theorem QM:Ext SA 113 (λ_=>pure (.bool false)):=⟨⟨Tryz.f113,by kernel_rfl,by kernel_rfl,by kernel_rfl,by kernel_rfl,by kernel_rfl⟩⟩
theorem ahW:Ext SA 118 (VL .read):=⟨⟨Tryz.f118,by kernel_rfl,by kernel_rfl,by kernel_rfl,by kernel_rfl,by kernel_rfl⟩⟩
theorem ahX:Ext SA 122 XT:=⟨⟨Tryz.f122,by kernel_rfl,by kernel_rfl,by kernel_rfl,by kernel_rfl,by kernel_rfl⟩⟩
theorem ahY:Ext SA 123 (VL .acquire):=⟨⟨Tryz.f123,by kernel_rfl,by kernel_rfl,by kernel_rfl,by kernel_rfl,by kernel_rfl⟩⟩
theorem ahZ:Ext SA 126 (VL .write):=⟨⟨Tryz.f126,by kernel_rfl,by kernel_rfl,by kernel_rfl,by kernel_rfl,by kernel_rfl⟩⟩
theorem QN:Ext SA 127 WJ:=⟨⟨Tryz.f127,by kernel_rfl,by kernel_rfl,by kernel_rfl,by kernel_rfl,by kernel_rfl⟩⟩
theorem QO:Ext SA 134 (XU (avz .add) .u64 true):=⟨⟨Tryz.f134,by kernel_rfl,by kernel_rfl,by kernel_rfl,by kernel_rfl,by kernel_rfl⟩⟩
theorem JX:Ext SA 135 (X6 (.int .u64)):=⟨⟨Tryz.f135,by kernel_rfl,by kernel_rfl,by kernel_rfl,by kernel_rfl,by kernel_rfl⟩⟩
theorem ah0:Ext SA 136 XV:=⟨⟨Tryz.f136,by kernel_rfl,by kernel_rfl,by kernel_rfl,by kernel_rfl,by kernel_rfl⟩⟩
theorem QP:Ext SA 137 (WY (.int .u64)):=⟨⟨Tryz.f137,by kernel_rfl,by kernel_rfl,by kernel_rfl,by kernel_rfl,by kernel_rfl⟩⟩
theorem aeo:SA.underlying 158=some (.pointer 147):=by kernel_rfl
theorem IB:SA.underlying 160=some .unsafePointer:=by kernel_rfl
theorem i182:(SA.info? 147).map (λi=>decide (i.size=0))=some false:=by kernel_rfl
noncomputable def aqL:Uf:={(default:Uf)with fn:=184,defers:=[],mode:=.panicking [goexitEntry]}
noncomputable def aqH (fn:TS)(tmps:Array SQ)(todo:List WX):Uf:={fn,tmps,todo,defers:=[],mode:=.returning,kind:=.deferred,roundOf:=none}
noncomputable def pW (Wg o:Nat):SQ:=.pointer (some ⟨Wg,o,none⟩)
section
variable (Wg:Nat)(tmps:Array SQ)(todo:List WX)
noncomputable def d0:SG:=G (Frame.enter SA 98 #[pW Wg 0] .deferred) [aqH 97 tmps todo,aqL]
noncomputable def d14:SG:=cI SA false 14 (d0 Wg tmps todo)
noncomputable def d15:SG:=fin (d14 Wg tmps todo) (pW Wg 0)
noncomputable def d16:SG:=fin (d15 Wg tmps todo) (.tuple #[])
noncomputable def d19:SG:=cI SA false 3 (d16 Wg tmps todo)
noncomputable def d20:SG:=fin (d19 Wg tmps todo) (.tuple #[])
noncomputable def d31:SG:=cI SA false 11 (d20 Wg tmps todo)
noncomputable def d32:SG:=fin (d31 Wg tmps todo) (.bool false)
noncomputable def d54:SG:=cI SA false 22 (d32 Wg tmps todo)
noncomputable def d55 (s:Int):SG:=fin (d54 Wg tmps todo) (.int .u64 s)
noncomputable def d158:SG:=cI SA false 103 (d55 Wg tmps todo 1)
noncomputable def d159:SG:=fin (d158 Wg tmps todo) (.int .u64 1)
noncomputable def d179:SG:=cI SA false 20 (d159 Wg tmps todo)
noncomputable def d180:SG:=fin (d179 Wg tmps todo) (.tuple #[])
noncomputable def Cz:SG:=cI SA false 27 (d180 Wg tmps todo)
noncomputable def Ah:SG:=fin (Cz Wg tmps todo) (.tuple #[])
set_option maxRecDepth 100000
variable (w:Tq)
theorem x0:(fQ SA false w 14 (d0 Wg tmps todo),pf SA false 14 (d0 Wg tmps todo),bQ (d14 Wg tmps todo),bQ (d15 Wg tmps todo))=(fJ SA false w 14 (d0 Wg tmps todo),true,true,true):=by kernel_rfl
theorem x14:pD (d14 Wg tmps todo)=some (158,160,pW Wg 0):=by kernel_rfl
theorem x15:cD (d15 Wg tmps todo)=some (110,#[pW Wg 0]):=by kernel_rfl
theorem IP:(fQ SA false w 3 (d16 Wg tmps todo),ja SA false 3 (d16 Wg tmps todo),bQ (d19 Wg tmps todo),j8 SA false 3 0 (d16 Wg tmps todo))=(fJ SA false w 3 (d16 Wg tmps todo),true,true,0):=by kernel_rfl
theorem x19:cD (d19 Wg tmps todo)=some (111,#[]):=by kernel_rfl
theorem IR:(fQ SA false w 11 (d20 Wg tmps todo),ja SA false 11 (d20 Wg tmps todo),bQ (d31 Wg tmps todo),j8 SA false 11 1 (d20 Wg tmps todo))=(fJ SA false w 11 (d20 Wg tmps todo),true,true,1):=by kernel_rfl
theorem x31:cD (d31 Wg tmps todo)=some (113,#[]):=by kernel_rfl
theorem IT:(fQ SA false w 22 (d32 Wg tmps todo),ja SA false 22 (d32 Wg tmps todo),bQ (d54 Wg tmps todo),j8 SA false 22 1 (d32 Wg tmps todo))=(fJ SA false w 22 (d32 Wg tmps todo),true,true,1):=by kernel_rfl
theorem x54:cD (d54 Wg tmps todo)=some (134,#[pW Wg 0,.int .u64 18446744069414584320]):=by kernel_rfl
theorem q30:(fQ SA false w 94 (d55 Wg tmps todo (3* 4294967296)),ja SA false 94 (d55 Wg tmps todo (3* 4294967296)),(cI SA false 94 (d55 Wg tmps todo (3* 4294967296))).status,j8 SA false 94 1 (d55 Wg tmps todo (3* 4294967296)))=(fJ SA false w 94 (d55 Wg tmps todo (3* 4294967296)),true,.finished,0):=by kernel_rfl
theorem q31:(fQ SA false w 94 (d55 Wg tmps todo (3* 4294967296+1)),ja SA false 94 (d55 Wg tmps todo (3* 4294967296+1)),(cI SA false 94 (d55 Wg tmps todo (3* 4294967296+1))).status,j8 SA false 94 1 (d55 Wg tmps todo (3* 4294967296+1)))=(fJ SA false w 94 (d55 Wg tmps todo (3* 4294967296+1)),true,.finished,0):=by kernel_rfl
theorem q20:(fQ SA false w 94 (d55 Wg tmps todo (2* 4294967296)),ja SA false 94 (d55 Wg tmps todo (2* 4294967296)),(cI SA false 94 (d55 Wg tmps todo (2* 4294967296))).status,j8 SA false 94 1 (d55 Wg tmps todo (2* 4294967296)))=(fJ SA false w 94 (d55 Wg tmps todo (2* 4294967296)),true,.finished,0):=by kernel_rfl
theorem q21:(fQ SA false w 94 (d55 Wg tmps todo (2* 4294967296+1)),ja SA false 94 (d55 Wg tmps todo (2* 4294967296+1)),(cI SA false 94 (d55 Wg tmps todo (2* 4294967296+1))).status,j8 SA false 94 1 (d55 Wg tmps todo (2* 4294967296+1)))=(fJ SA false w 94 (d55 Wg tmps todo (2* 4294967296+1)),true,.finished,0):=by kernel_rfl
theorem q10:(fQ SA false w 94 (d55 Wg tmps todo (1* 4294967296)),ja SA false 94 (d55 Wg tmps todo (1* 4294967296)),(cI SA false 94 (d55 Wg tmps todo (1* 4294967296))).status,j8 SA false 94 1 (d55 Wg tmps todo (1* 4294967296)))=(fJ SA false w 94 (d55 Wg tmps todo (1* 4294967296)),true,.finished,0):=by kernel_rfl
theorem q11:(fQ SA false w 94 (d55 Wg tmps todo (1* 4294967296+1)),ja SA false 94 (d55 Wg tmps todo (1* 4294967296+1)),(cI SA false 94 (d55 Wg tmps todo (1* 4294967296+1))).status,j8 SA false 94 1 (d55 Wg tmps todo (1* 4294967296+1)))=(fJ SA false w 94 (d55 Wg tmps todo (1* 4294967296+1)),true,.finished,0):=by kernel_rfl
theorem q00:(fQ SA false w 94 (d55 Wg tmps todo 0),ja SA false 94 (d55 Wg tmps todo 0),(cI SA false 94 (d55 Wg tmps todo 0)).status,j8 SA false 94 1 (d55 Wg tmps todo 0))=(fJ SA false w 94 (d55 Wg tmps todo 0),true,.finished,0):=by kernel_rfl
theorem IU:(fQ SA false w 103 (d55 Wg tmps todo 1),ja SA false 103 (d55 Wg tmps todo 1),bQ (d158 Wg tmps todo),j8 SA false 103 1 (d55 Wg tmps todo 1))=(fJ SA false w 103 (d55 Wg tmps todo 1),true,true,1):=by kernel_rfl
theorem atE:cD (d158 Wg tmps todo)=some (135,#[pW Wg 0]):=by kernel_rfl
theorem IN:(fQ SA false w 20 (d159 Wg tmps todo),ja SA false 20 (d159 Wg tmps todo),bQ (d179 Wg tmps todo),j8 SA false 20 1 (d159 Wg tmps todo))=(fJ SA false w 20 (d159 Wg tmps todo),true,true,1):=by kernel_rfl
theorem atF:cD (d179 Wg tmps todo)=some (136,#[pW Wg 0,.int .u64 0]):=by kernel_rfl
theorem IQ:(fQ SA false w 27 (d180 Wg tmps todo),ja SA false 27 (d180 Wg tmps todo),bQ (Cz Wg tmps todo),j8 SA false 27 1 (d180 Wg tmps todo))=(fJ SA false w 27 (d180 Wg tmps todo),true,true,1):=by kernel_rfl
theorem atG:cD (Cz Wg tmps todo)=some (122,#[pW Wg 1,.bool false,.int .i64 0]):=by kernel_rfl
theorem IS:(fQ SA false w 24 (Ah Wg tmps todo),ja SA false 24 (Ah Wg tmps todo),(cI SA false 24 (Ah Wg tmps todo)).status,j8 SA false 24 1 (Ah Wg tmps todo))=(fJ SA false w 24 (Ah Wg tmps todo),true,.finished,0):=by kernel_rfl
theorem xm:mayWake SA (Cz Wg tmps todo)=true:=by kernel_rfl
end
section
variable (Wg:Nat)(tmps:Array SQ)(todo:List WX)
theorem ee{α β γ δ:Type}{a a':α}{b b':β}{c c':γ}{d d':δ}(h:(a,b,c,d)=(a',b',c',d')):a=a'/\b=b'/\c=c'/\d=d':=by
 simpa[U8]using h
theorem x9{s:Int}(h:∀w,(fQ SA false w 94 (d55 Wg tmps todo s),ja SA false 94 (d55 Wg tmps todo s),(cI SA false 94 (d55 Wg tmps todo s)).status,j8 SA false 94 1 (d55 Wg tmps todo s))=(fJ SA false w 94 (d55 Wg tmps todo s),true,.finished,0)):∃q,Y_ SA q 1 (d55 Wg tmps todo s):=
 Ih 94 1 _ (λw=>(ee (h w)).1) (ee (h default)).2.1 (Oj (ee (h default)).2.2.1 (ee (h default)).2.2.2)
theorem ahN:Ff SA Wg 1 (Cz Wg tmps todo):=by
 refine⟨rfl,bQ.out (ee (IQ Wg tmps todo default)).2.2.1,xm Wg tmps todo,Ah Wg tmps todo,λw hw=> ?_,?_⟩
 ·exact arV (n:=0) (atG Wg tmps todo) ahX hw.st.2.1 hw.st.2.2.2
 ·exact Ih 24 1 _ (λw=>(ee (IS Wg tmps todo w)).1) (ee (IS Wg tmps todo default)).2.1 (Oj (ee (IS Wg tmps todo default)).2.2.1 (ee (IS Wg tmps todo default)).2.2.2)
theorem ahO:Fg SA Wg 1 (d179 Wg tmps todo):=by
 refine⟨rfl,bQ.out (ee (IN Wg tmps todo default)).2.2.1,d180 Wg tmps todo,λw hw=> ?_,?_⟩
 ·exact arX (atF Wg tmps todo) ah0 hw.st.1 hw.st.2.2.1
 ·refine xv 27 1 _ (λw=>(ee (IQ Wg tmps todo w)).1) (ee (IQ Wg tmps todo default)).2.1 ?_;rw[(ee (IQ Wg tmps todo default)).2.2.2];exact⟨0,ahN Wg tmps todo⟩
theorem ahM:Fe SA Wg 1 (d158 Wg tmps todo):=by
 refine⟨rfl,bQ.out (ee (IU Wg tmps todo default)).2.2.1,d159 Wg tmps todo,λw hw=> ?_,?_⟩
 ·exact OK (atE Wg tmps todo) JX hw.st.1
 ·refine xv 20 1 _ (λw=>(ee (IN Wg tmps todo w)).1) (ee (IN Wg tmps todo default)).2.1 ?_;rw[(ee (IN Wg tmps todo default)).2.2.2];exact⟨0,ahO Wg tmps todo⟩
theorem ahK:BV SA Wg 1 (d54 Wg tmps todo):=by
 refine⟨rfl,bQ.out (ee (IT Wg tmps todo default)).2.2.1,λv wt vI hv=>⟨d55 Wg tmps todo ((v:Int)* KK+wt),λw hw=> ?_,λh=> ?_,λh=> ?_⟩⟩
 ·have e:TD.wrap ((((v+1:Nat):Int)* KK+wt)+18446744069414584320)=(v:Int)* KK+wt:=by
   have h1:TD.bits=64:=rfl;have h2:TD.signed=false:=rfl;unfold Xh KK;rw[h1,h2];simp;omega
  have:=adA (P:=SA) (main:=false) (w:=w) (x54 Wg tmps todo) QO hw.st.1 hw.st.2.2.1;rw[e]at this;exact this
 ·obtain⟨rfl,rfl⟩:=h;refine xv 103 1 _ (λw=>(ee (IU Wg tmps todo w)).1) (ee (IU Wg tmps todo default)).2.1 ?_;have e:=(ee (IU Wg tmps todo default)).2.2.2;exact⟨0,by rw[show (((0:Nat):Int)* KK+((1:Nat):Int))=1 from rfl,e];exact ahM Wg tmps todo⟩
 ·have hv4:v=0\/v=1\/v=2\/v=3:=by omega
  have eS:wt=0\/wt=1:=by omega
  rcases hv4 with rfl|rfl|rfl|rfl<;>rcases eS with rfl|rfl
  ·exact x9 Wg tmps todo (q00 Wg tmps todo)
  ·exact absurd ⟨rfl,rfl⟩ h
  ·exact x9 Wg tmps todo (q10 Wg tmps todo)
  ·exact x9 Wg tmps todo (q11 Wg tmps todo)
  ·exact x9 Wg tmps todo (q20 Wg tmps todo)
  ·exact x9 Wg tmps todo (q21 Wg tmps todo)
  ·exact x9 Wg tmps todo (q30 Wg tmps todo)
  ·exact x9 Wg tmps todo (q31 Wg tmps todo)
theorem ahL:Fo SA Wg (d15 Wg tmps todo):=by
 refine⟨bQ.out (ee (x0 Wg tmps todo default)).2.2.2,d16 Wg tmps todo,λw=>Iv .releaseMerge (λ_ _ h=>by cases h) (x15 Wg tmps todo) ahU,?_⟩;refine xv 3 0 _ (λw=>(ee (IP Wg tmps todo w)).1) (ee (IP Wg tmps todo default)).2.1 ?_;rw[(ee (IP Wg tmps todo default)).2.2.2];refine OG (g:=d19 Wg tmps todo) (g':=d20 Wg tmps todo) (bQ.out (ee (IP Wg tmps todo default)).2.2.1) (NG (.inl rfl)) (λw=>Iu (λ_ h=>by cases h) (x19 Wg tmps todo) JW) ?_;refine xv 11 1 (d20 Wg tmps todo) (λw=>(ee (IR Wg tmps todo w)).1) (ee (IR Wg tmps todo default)).2.1 ?_;rw[(ee (IR Wg tmps todo default)).2.2.2];refine OG (es:=#[]) (g:=d31 Wg tmps todo) (g':=d32 Wg tmps todo) (bQ.out (ee (IR Wg tmps todo default)).2.2.1) (by simp) (λw=>adB (x31 Wg tmps todo) QM) ?_;refine xv 22 1 (d32 Wg tmps todo) (λw=>(ee (IT Wg tmps todo w)).1) (ee (IT Wg tmps todo default)).2.1 ?_;rw[(ee (IT Wg tmps todo default)).2.2.2];exact⟨0,ahK Wg tmps todo⟩
theorem ahP{J:View->SG->Prop}(C:zL SA false J){V:View}{c:Nat}(hr:V.role=.work c Wg [])(hd:V.deaf=0):J V (d0 Wg tmps todo):=by
 have C':Closed false SA false J:={C with more:=λh=>by cases h};have hx:=ee (x0 Wg tmps todo default);refine uh C' 14 _ (λw=>(ee (x0 Wg tmps todo w)).1) hx.2.1 ?_;refine C.slip V _ (d15 Wg tmps todo) c Wg hr (bQ.out hx.2.2.1) (λw st hw hW=> ?_) (C.done V _ c Wg hr hd (ahL Wg tmps todo));exact Iw (x14 Wg tmps todo) aeo IB i182 hW.st.1
end
section
variable (Wg:Nat)(cs:List Uf)(main:Bool)
noncomputable def a0:SG:=G (Frame.enter SA 96 #[pW Wg 0,.int .i64 1] .normal) cs
noncomputable def Fz:SG:=cI SA main 12 (a0 Wg cs)
noncomputable def Ce:SG:=fin (Fz Wg cs main) (.tuple #[])
noncomputable def FA:SG:=cI SA main 11 (Ce Wg cs main)
noncomputable def Cg:SG:=fin (FA Wg cs main) (.bool false)
noncomputable def FB:SG:=cI SA main 22 (Cg Wg cs main)
noncomputable def nE (s:Int):SG:=fin (FB Wg cs main) (.int .u64 s)
noncomputable def nD (s:Int):SG:=cI SA main 87 (nE Wg cs main s)
noncomputable def Jc:SG:=cI SA main 52 (nE Wg cs main 4294967296)
noncomputable def Cc:SG:=fin (Jc Wg cs main) (pW Wg 1)
noncomputable def Cd:SG:=fin (Cc Wg cs main) (.tuple #[])
noncomputable def Cf:SG:=cI SA main 39 (Cd Wg cs main)
set_option maxRecDepth 100000
variable (w:Tq)
theorem y0:(fQ SA main w 12 (a0 Wg cs),pf SA main 12 (a0 Wg cs),bQ (Fz Wg cs main),cD (Fz Wg cs main))=(fJ SA main w 12 (a0 Wg cs),true,true,some (111,#[])):=by kernel_rfl
theorem y13:(fQ SA main w 11 (Ce Wg cs main),pf SA main 11 (Ce Wg cs main),bQ (FA Wg cs main),cD (FA Wg cs main))=(fJ SA main w 11 (Ce Wg cs main),true,true,some (113,#[])):=by kernel_rfl
theorem y25:(fQ SA main w 22 (Cg Wg cs main),pf SA main 22 (Cg Wg cs main),bQ (FB Wg cs main),cD (FB Wg cs main))=(fJ SA main w 22 (Cg Wg cs main),true,true,some (134,#[pW Wg 0,.int .u64 4294967296])):=by kernel_rfl
noncomputable def zi (g:SG):ZL×Vg×Nat×Xj×List U3×Bool:=(.go (gD SA main g) w #[⟨.mark .enable,false,true⟩],(gD SA main g).frame.mode,(gD SA main g).frame.fn,(gD SA main g).frame.kind,(gD SA main g).frame.defers,bQ (gD SA main g))
theorem Pb:(fQ SA main w 87 (nE Wg cs main (2* 4294967296)),pf SA main 87 (nE Wg cs main (2* 4294967296)),bQ (nD Wg cs main (2* 4294967296)),zi main w (nD Wg cs main (2* 4294967296)))=(fJ SA main w 87 (nE Wg cs main (2* 4294967296)),true,true,stepG SA main (nD Wg cs main (2* 4294967296)) w,.returning,96,.normal,[],true):=by kernel_rfl
theorem Pc:(fQ SA main w 87 (nE Wg cs main (3* 4294967296)),pf SA main 87 (nE Wg cs main (3* 4294967296)),bQ (nD Wg cs main (3* 4294967296)),zi main w (nD Wg cs main (3* 4294967296)))=(fJ SA main w 87 (nE Wg cs main (3* 4294967296)),true,true,stepG SA main (nD Wg cs main (3* 4294967296)) w,.returning,96,.normal,[],true):=by kernel_rfl
theorem Pd:(fQ SA main w 87 (nE Wg cs main (4* 4294967296)),pf SA main 87 (nE Wg cs main (4* 4294967296)),bQ (nD Wg cs main (4* 4294967296)),zi main w (nD Wg cs main (4* 4294967296)))=(fJ SA main w 87 (nE Wg cs main (4* 4294967296)),true,true,stepG SA main (nD Wg cs main (4* 4294967296)) w,.returning,96,.normal,[],true):=by kernel_rfl
theorem aeD:(fQ SA main w 52 (nE Wg cs main 4294967296),pf SA main 52 (nE Wg cs main 4294967296),bQ (Jc Wg cs main),pD (Jc Wg cs main))=(fJ SA main w 52 (nE Wg cs main 4294967296),true,true,some (165,160,pW Wg 1)):=by kernel_rfl
theorem atH:cD (Cc Wg cs main)=some (118,#[pW Wg 1]):=by kernel_rfl
theorem Pa:(fQ SA main w 39 (Cd Wg cs main),pf SA main 39 (Cd Wg cs main),bQ (Cf Wg cs main),zi main w (Cf Wg cs main))=(fJ SA main w 39 (Cd Wg cs main),true,true,stepG SA main (Cf Wg cs main) w,.returning,96,.normal,[],true):=by kernel_rfl
theorem yr1:bQ (Cc Wg cs main)=true:=by kernel_rfl
theorem IC:∃t,SA.underlying 165=some (.pointer t)/\(SA.info? t).map (λi=>decide (i.size=0))=some false:=⟨145,by kernel_rfl,by kernel_rfl⟩
theorem aiT:∃fn,SA.funcs[96]?=some fn/\fn.results=#[]:=⟨Tryz.f96,by kernel_rfl,by kernel_rfl⟩
end
section
variable {P:SI}{V:View}
theorem ar7{w:Tq}{b o:Nat}{v:SQ}{c:Array SQ}{el:TypeId}(hw:Sat V w)(ho:V.own b=some (.cells c el (0,0)))(cG:V.ab b o=none)(LA:V.role.chan≠some b):
  dh V w (V.upd b (.cells (c.setIfInBounds o v) el (0,0))) (w.setCell ⟨b,o,none⟩ v) #[⟨.cell ⟨b,o,none⟩,false,true⟩,⟨.cell ⟨b,o,none⟩,true,true⟩]:=by
 refine⟨hw.aes ho cG,rfl,rfl,rfl,by rw[EJ];exact SP _,λb' dI e=>wU _ _ _ (λx=> ?_),λb' dI e=> ?_,λ_ _ _ e=>e,λ_ _ _ e=> .inl e,λev ce=> ?_,by simp[deafBehind];rfl,rfl,λc' x bp e=>by rw[<- e];simp only[View.upd,ite_eq_right_iff];intro x';subst x';exact absurd bp LA,λev ce=> ?_⟩
 ·have x':b=b':=x;subst x';rw[ho]at e;cases e
 ·have:b'≠b:=by intro x;subst x;rw[ho]at e;cases e
  simp only[View.upd,this,if_false];exact e
 ·simp only[TO,SK,SZ,or_false]at ce;rcases ce with rfl|rfl
  ·exact⟨.inr (.inl (by show V.own b≠none;rw[ho];simp)),.inl rfl⟩
  ·exact⟨.inr ⟨by show V.own b≠none;rw[ho];simp,cG⟩,.inl rfl⟩
 ·simp only[TO,SK,SZ,or_false]at ce;rcases ce with rfl|rfl<;>(show b<_;rw[EJ];exact hw.lt ho)
theorem Closed.said{lv main:Bool}{J:View->SG->Prop}(C:Closed lv P main J){g g':SG}{a:Va}(hr:g.status=.running)(ha:V.own a.block≠none/\V.ab a.block a.off=none)(h:∀w,stepG P main g w=.go g' w #[⟨.mark (.read a),false,true⟩]) (hJ:J V g'):J V g:=by
 refine C.step _ _ hr λw hw=> ?_;have hs:=arp (P:=P) (V:=V) (k:=(.pure ():Sem Unit)) (K:=λ_ V'=>V'=V) (Kp:=λ_ _=>False) (m:=.read a) (.inl rfl) ha (cM rfl);obtain⟨es,w',V',k1,k2,k3⟩:=hs.runs hw;rcases k3 with⟨x,k3,rfl⟩|⟨_,_,hx⟩
 ·have e1:Yi () w=Yi x w':=k3;have e2:es=#[⟨.mark (.read a),false,true⟩]:=k2.symm;cases e1;subst e2;refine⟨g',w,_,_,h w,?_,hJ⟩;rwa [un (by simp)]at k1
 ·exact hx.elim
end
section
variable (Wg:Nat)(cs:List Uf)(main:Bool)
set_option maxRecDepth 100000
theorem yG2:gD SA main (nD Wg cs main (2* 4294967296))=G (gD SA main (nD Wg cs main (2* 4294967296))).frame cs:=by kernel_rfl
theorem yG3:gD SA main (nD Wg cs main (3* 4294967296))=G (gD SA main (nD Wg cs main (3* 4294967296))).frame cs:=by kernel_rfl
theorem yG4:gD SA main (nD Wg cs main (4* 4294967296))=G (gD SA main (nD Wg cs main (4* 4294967296))).frame cs:=by kernel_rfl
theorem yG1:gD SA main (Cf Wg cs main)=G (gD SA main (Cf Wg cs main)).frame cs:=by kernel_rfl
end
theorem lc{α β γ δ:Type}{a a':α}{b b':β}{c c':γ}{d d':δ}(h:(a,b,c,d)=(a',b',c',d')):a=a'/\b=b'/\c=c'/\d=d':=by
 simpa[U8]using h
section
variable {lv main:Bool}{J:View->SG->Prop}{V:View}{cs:List Uf}
theorem FE(C:Closed lv SA main J){g:SG}{U:View}(bL:bQ g=true)(h:∀w,(Go.Gg.zi main w g)=(stepG SA main g w,.returning,96,.normal,[],true))(hG:gD SA main g=G (gD SA main g).frame cs)
  (hU:U={V with deaf:=deafBehind V.deaf #[⟨.mark .enable,false,true⟩]}) (hJ:∀fr,Leaves SA fr 96 .normal (.ret (.tuple #[])) U->J U (G fr cs)):J V g:=by
 refine C.mute (.inr rfl) (bQ.out bL) (λw=> ?_) (g':=gD SA main g) ?_
 ·have:=h w;simp only[Go.Gg.zi,U8]at this;exact this.1.symm
 ·have:=h default;simp only[Go.Gg.zi,U8]at this;obtain⟨_,h1,h2,h3,h4,_⟩:=this;rw[hG,<- hU];refine hJ _ ⟨h2,h4,h3,?_⟩;obtain⟨fn,hf,hr⟩:=aiT;exact⟨fn,hf,h1,results_none hr⟩
theorem afI{n Wg:Nat}{sm:TypeId}(hn:n<4)(hW:V.own Wg=some (.cells #[.int .u64 ((n:Int)* KK),.int .u32 0] sm (0,0))) (hi:∀o,V.ab Wg o=none) (hc:V.role.chan≠some Wg) (hd:V.deaf=0):
  Body lv SA 96 #[pW Wg 0,.int .i64 1] .normal V (λo V'=>o=.ret (.tuple #[])/\V'=V.upd Wg (.cells #[.int .u64 (((n+1:Nat):Int)* KK),.int .u32 0] sm (0,0))):=by
 intro main J C cs hJ;have hA:=lc (y0 Wg cs main default);show J V (a0 Wg cs);refine uh C 12 _ (λw=>(lc (y0 Wg cs main w)).1) hA.2.1 ?_;refine C.mute (g:=Fz Wg cs main) (g':=Ce Wg cs main) (.inl rfl) (bQ.out hA.2.2.1) (λw=>Iu (λ_ h=>by cases h) hA.2.2.2 JW) ?_;have hB:=lc (y13 Wg cs main default);refine uh C 11 _ (λw=>(lc (y13 Wg cs main w)).1) hB.2.1 ?_;refine C.idle (g:=FA Wg cs main) (g':=Cg Wg cs main) (bQ.out hB.2.2.1) (λw=>adB hB.2.2.2 QM) ?_;have hC:=lc (y25 Wg cs main default);refine uh C 22 _ (λw=>(lc (y25 Wg cs main w)).1) hC.2.1 ?_;let V1:View:={V with deaf:=deafBehind V.deaf #[⟨.mark .disable,false,true⟩]};let V2:View:=V1.upd Wg (.cells #[.int .u64 (((n+1:Nat):Int)* KK),.int .u32 0] sm (0,0));have Aw:{V2 with deaf:=deafBehind V2.deaf #[⟨.mark .enable,false,true⟩]}=V.upd Wg (.cells #[.int .u64 (((n+1:Nat):Int)* KK),.int .u32 0] sm (0,0)):=by
  obtain⟨i,o,d,r⟩:=V;have:d=0:=hd;subst this;rfl
 show J V1 (FB Wg cs main);refine C.step _ _ (bQ.out hC.2.2.1) λw hw=> ?_;have hh:=hw.own Wg _ hW;have du:w.cell? ⟨Wg,0,none⟩=some (.int .u64 ((n:Int)* KK)):=by simp[UC,hh]
 have iN:w.frozen? ⟨Wg,0,none⟩=false:=by simp[Z1,hh]
 have hs:=adA (P:=SA) (main:=main) (w:=w) hC.2.2.2 QO du iN;have e:TD.wrap (((n:Int)* KK)+4294967296)=((n+1:Nat):Int)* KK:=by
  have h1:TD.bits=64:=rfl;have h2:TD.signed=false:=rfl;unfold Xh KK;rw[h1,h2];simp;omega
 rw[e]at hs;refine⟨nE Wg cs main (((n+1:Nat):Int)* KK),_,_,V2,hs,?_,?_⟩
 ·exact ar7 (V:=V1) hw hW (hi 0) hc
 have hn4:n=0\/n=1\/n=2\/n=3:=by omega
 rcases hn4 with rfl|rfl|rfl|rfl
 ·have hD:=lc (aeD Wg cs main default);refine uh C 52 _ (λw=>(lc (aeD Wg cs main w)).1) hD.2.1 ?_;obtain⟨t,Mx,yT⟩:=IC;have Sp:V2.own Wg=some (.cells #[.int .u64 (((0+1:Nat):Int)* KK),.int .u32 0] sm (0,0)):=by simp[V2,View.upd]
  refine C.step _ _ (bQ.out hD.2.2.1) λw hw=>⟨Cc Wg cs main,w,#[],V2,?_,.idle hw,?_⟩
  ·have hh:=hw.own Wg _ Sp;exact Iw hD.2.2.2 Mx IB yT (v:=.int .u32 0) (by simp[UC,hh])
  refine C.said (g:=Cc Wg cs main) (g':=Cd Wg cs main) (a:=⟨Wg,1,none⟩) (bQ.out (yr1 Wg cs main)) ⟨by show V2.own Wg≠none;rw[Sp];simp,hi 1⟩ (λw=>Iv .read (λ_ _ h=>by cases h) (atH Wg cs main) ahW) ?_;have hE:=lc (Pa Wg cs main default);refine uh C 39 _ (λw=>(lc (Pa Wg cs main w)).1) hE.2.1 ?_;exact FE C hE.2.2.1 (λw=>(lc (Pa Wg cs main w)).2.2.2) (yG1 Wg cs main) Aw.symm λfr hl=>hJ _ _ fr ⟨rfl,rfl⟩ hl
 ·have hE:=lc (Pb Wg cs main default);refine uh C 87 _ (λw=>(lc (Pb Wg cs main w)).1) hE.2.1 ?_;exact FE C hE.2.2.1 (λw=>(lc (Pb Wg cs main w)).2.2.2) (yG2 Wg cs main) Aw.symm λfr hl=>hJ _ _ fr ⟨rfl,rfl⟩ hl
 ·have hE:=lc (Pc Wg cs main default);refine uh C 87 _ (λw=>(lc (Pc Wg cs main w)).1) hE.2.1 ?_;exact FE C hE.2.2.1 (λw=>(lc (Pc Wg cs main w)).2.2.2) (yG3 Wg cs main) Aw.symm λfr hl=>hJ _ _ fr ⟨rfl,rfl⟩ hl
 ·have hE:=lc (Pd Wg cs main default);refine uh C 87 _ (λw=>(lc (Pd Wg cs main w)).1) hE.2.1 ?_;exact FE C hE.2.2.1 (λw=>(lc (Pd Wg cs main w)).2.2.2) (yG4 Wg cs main) Aw.symm λfr hl=>hJ _ _ fr ⟨rfl,rfl⟩ hl
end
section
variable {P:SI}{main:Bool}{g:SG}{w:Tq}
def vU (g:SG):Option (TypeId×SQ):=match ready g with
 |some {op:=.load t x, .. }=>some (t,g.frame.eval x)
 |_=>none
theorem arT{t:TypeId}{d:TypeDesc}{ad:Va}{v:SQ}(h:vU g=some (t,.pointer (some ad)))(ht:P.underlying t=some d)(hd:TypeDesc.agg d=false)(hq:(P.funcs[g.frame.fn]?).any (·.norace)=false)(hc:w.cell? ad=some v):
  stepG P main g w=.go (fin g v) w #[⟨.cell ad,false,false⟩]:=by
 obtain⟨o,x,h1,h2,h3⟩:∃o x,ready g=some o/\o.op=.load t x/\g.frame.eval x=.pointer (some ad):=by
  unfold vU at h;split at h
  ·rename_i s x _ _ _ _ ho;simp only[Tl,U8]at h;obtain⟨rfl,h⟩:=h;exact⟨_,x,ho,rfl,h⟩
  ·cases h
 obtain⟨b,a,ops,i,rest,kk,cs,e,q1,q2,q3,q4,q5,q6,_⟩:=ready.out h1;rw[<- q4]at h3;rw[<- q5];refine VM (congrArg (λx=>stepG P main x w) e) ?_;have e1:execOp a.eval o=(do let v<- XE t (.pointer (some ad));pure (.value v)):=by
  unfold execOp;simp only[h2,h3]
 have e2:(isAgg t:Sem Bool).run P w=.ok false w/\∀es,(isAgg t:Sem Bool).events P w es=es:=by
  unfold isAgg Go.underlying;cases d<;>first
   |(exact(Bool.noConfusion hd))
   |(constructor<;>simp[go_sem,ht])
 have hr:(execOp a.eval o).run P w=.ok (.value v) w:=by
  rw[e1];simp[XE,Vj,loadVar,e2.1,hc]
 have ce:(execOp a.eval o).events P w #[]=#[⟨.cell ad,false,false⟩]:=by
  rw[e1];simp[XE,Vj,loadVar,e2.1,e2.2,hc]
 rw[avr q1 q2 q3 hr];unfold listed;rw[ce,seen_eq (by rw[q6];exact hq) (by intro e he f;simp only[TO,SK,SZ,or_false]at he;rw[he];simp)]
def x7 (g:SG):Option SQ:=match ready g with
 |some {op:=.call {callee:=.builtin .close,args, .. }, .. }=>match args.toList with
  |[x]=>some (g.frame.eval x)
  |_=>none
 |_=>none
theorem arS{c cap s r:Nat}{FR:Array SQ}{tm:Bool}(h:x7 g=some (.chan (some c)))(hq:(P.funcs[g.frame.fn]?).any (·.norace)=false)(hc:w.heap[c]?=some (.chan cap FR false s r tm)):
  stepG P main g w=.go (fin g (.tuple #[])) {w with heap:=w.heap.setIfInBounds c (.chan cap FR true s r tm)} #[⟨.obj c,false,true⟩,⟨.obj c,true,true⟩]:=by
 obtain⟨o,x,mw,h1,h2,h3⟩:∃o x mw,ready g=some o/\o.op=.call {callee:=.builtin .close,args:=#[x],argTypes:=mw}/\g.frame.eval x=.chan (some c):=by
  unfold x7 at h;split at h
  ·rename_i dst xs mw ty pos af gd ho;split at h
   ·rename_i x hx;have:xs=#[x]:=(by apply VH;simpa using hx);subst this;exact⟨_,x,_,ho,rfl,by simpa using h⟩
   ·cases h
  ·cases h
 obtain⟨b,a,ops,i,rest,kk,cs,e,q1,q2,q3,q4,q5,q6,_⟩:=ready.out h1;rw[<- q4]at h3;rw[<- q5];refine VM (congrArg (λx=>stepG P main x w) e) ?_;exact stepG_close q1 q2 q3 h2 h3 hc (by rw[q6];exact hq)
end
section
variable (Wg fc c:Nat)
noncomputable def e0:SG:=born SA ⟨.fn (.func 100) #[pW Wg 0,pW fc 0],#[]⟩
noncomputable def e7:SG:=cI SA false 7 (e0 Wg fc)
noncomputable def e8:SG:=fin (e7 Wg fc) (.tuple #[])
noncomputable def e27:SG:=cI SA false 19 (e8 Wg fc)
noncomputable def f76 (h:SG)(v:Int):SG:=cI SA false 48 (fin h (.int .u64 v))
noncomputable def NB (b:SG):SG:=cI SA false 25 (fin b (.bool false))
noncomputable def f96 (b:SG):SG:=cI SA false 19 (fin b (.bool true))
noncomputable def f97 (b:SG):SG:=fin (f96 b) (pW Wg 1)
noncomputable def f121 (b:SG):SG:=cI SA false 23 (fin (f97 Wg b) (.tuple #[]))
noncomputable def f138 (b:SG):SG:=cI SA false 16 (fin (f121 Wg b) (.tuple #[]))
noncomputable def f150 (b:SG):SG:=cI SA false 11 (fin (f138 Wg b) (.int .u64 0))
noncomputable def f154 (b:SG):SG:=cI SA false 3 (fin (f150 Wg b) (.tuple #[]))
noncomputable def f155 (b:SG):SG:=fin (f154 Wg b) (pW Wg 0)
noncomputable def f168 (b:SG):SG:=cI SA false 12 (fin (f155 Wg b) (.tuple #[]))
noncomputable def f169 (b:SG):SG:=fin (f168 Wg b) (.chan (some c))
noncomputable def f170 (b:SG):SG:=fin (f169 Wg c b) (.tuple #[])
noncomputable def zK (h:SG):SG:=cI SA false 31 (fin h (.int .u64 0))
noncomputable def Pe (h:SG):SG:=cI SA false 3 (fin (zK h) (.tuple #[]))
noncomputable def v_ (h:SG):SG:=fin (Pe h) (pW Wg 0)
noncomputable def EZ (h:SG):SG:=cI SA false 22 (fin (v_ Wg h) (.tuple #[]))
noncomputable def wa (h:SG):SG:=fin (EZ Wg h) (.chan (some c))
noncomputable def IW (h:SG):SG:=fin (wa Wg c h) (.tuple #[])
noncomputable def hd:List Int->SG
 |[]=>e27 Wg fc
 |v::l=>NB (f76 (hd l) v)
noncomputable def bd (l:List Int)(v:Int):SG:=f76 (hd Wg fc l) v
noncomputable def fB (w:Tq)(n d:Nat)(g:SG):List ZL×Bool×Bool×Nat:=(fQ SA false w n g,ja SA false n g,bQ (cI SA false n g),j8 SA false n d g)
noncomputable def fA (w:Tq)(n d:Nat)(g:SG):List ZL×Bool×Bool×Nat:=(fJ SA false w n g,true,true,d)
noncomputable def Am (w:Tq)(n:Nat)(g:SG):List ZL×Bool×GoStatus×Nat:=(fQ SA false w n g,ja SA false n g,(cI SA false n g).status,j8 SA false n 0 g)
noncomputable def Al (w:Tq)(n:Nat)(g:SG):List ZL×Bool×GoStatus×Nat:=(fJ SA false w n g,true,.finished,0)
noncomputable def re (g:SG):Bool:= !(SA.funcs[g.frame.fn]?).any (·.norace)
noncomputable def zT (w:Tq)(h:SG):=(cD h,bQ h,fB w 31 1 (fin h (.int .u64 0)),cD (zK h),fB w 3 0 (fin (zK h) (.tuple #[])),pD (Pe h),cD (v_ Wg h),bQ (v_ Wg h),fB w 22 0 (fin (v_ Wg h) (.tuple #[])),vU (EZ Wg h),re (EZ Wg h),x7 (wa Wg c h),re (wa Wg c h),bQ (wa Wg c h),mayWake SA (wa Wg c h),Am w 4 (IW Wg c h))
noncomputable def zR (w:Tq)(h:SG):=(some ((135:TS),#[pW Wg 0]),true,fA w 31 1 (fin h (.int .u64 0)),some ((112:TS),(#[]:Array SQ)),fA w 3 0 (fin (zK h) (.tuple #[])),some ((158:TypeId),(160:TypeId),pW Wg 0),some ((123:TS),#[pW Wg 0]),true,fA w 22 0 (fin (v_ Wg h) (.tuple #[])),some ((139:TypeId),pW fc 0),true,some (XS (some c)),true,true,true,Al w 4 (IW Wg c h))
noncomputable def fT (w:Tq)(b:SG):=(cD b,bQ b,fB w 25 1 (fin b (.bool false)),fB w 19 1 (fin b (.bool true)),pD (f96 b),cD (f97 Wg b),bQ (f97 Wg b),fB w 23 1 (fin (f97 Wg b) (.tuple #[])),cD (f121 Wg b),(f121 Wg b).offers,fB w 16 1 (fin (f121 Wg b) (.tuple #[])),cD (f138 Wg b),fB w 11 1 (fin (f138 Wg b) (.int .u64 0)),cD (f150 Wg b),fB w 3 0 (fin (f150 Wg b) (.tuple #[])),pD (f154 Wg b),cD (f155 Wg b),bQ (f155 Wg b),fB w 12 0 (fin (f155 Wg b) (.tuple #[])),vU (f168 Wg b),re (f168 Wg b),x7 (f169 Wg c b),re (f169 Wg c b),bQ (f169 Wg c b),mayWake SA (f169 Wg c b),Am w 4 (f170 Wg c b))
noncomputable def fR (w:Tq)(b:SG)(v:Int):=(some ((137:TS),#[pW Wg 0,.int .u64 v,.int .u64 (v+1)]),true,fA w 25 1 (fin b (.bool false)),fA w 19 1 (fin b (.bool true)),some ((165:TypeId),(160:TypeId),pW Wg 1),some ((126:TS),#[pW Wg 1]),true,fA w 23 1 (fin (f97 Wg b) (.tuple #[])),some ((127:TS),#[pW Wg 1,.bool false]),(none:Option (Array CommCase×CommShape)),fA w 16 1 (fin (f121 Wg b) (.tuple #[])),some ((135:TS),#[pW Wg 0]),fA w 11 1 (fin (f138 Wg b) (.int .u64 0)),some ((112:TS),(#[]:Array SQ)),fA w 3 0 (fin (f150 Wg b) (.tuple #[])),some ((158:TypeId),(160:TypeId),pW Wg 0),some ((123:TS),#[pW Wg 0]),true,fA w 12 0 (fin (f155 Wg b) (.tuple #[])),some ((139:TypeId),pW fc 0),true,some (XS (some c)),true,true,true,Al w 4 (f170 Wg c b))
set_option maxRecDepth 100000
theorem c0(w:Tq):(fB w 7 0 (e0 Wg fc),cD (e7 Wg fc),fB w 19 1 (e8 Wg fc))=(fA w 7 0 (e0 Wg fc),some ((111:TS),(#[]:Array SQ)),fA w 19 1 (e8 Wg fc)):=by kernel_rfl
noncomputable def pT (w:Tq)(l:List Int)(v:Int):=(fB w 48 1 (fin (hd Wg fc l) (.int .u64 v)),fT Wg c w (bd Wg fc l v),zT Wg c w (hd Wg fc (v::l)))
noncomputable def pR (w:Tq)(l:List Int)(v:Int):=(fA w 48 1 (fin (hd Wg fc l) (.int .u64 v)),fR Wg fc c w (bd Wg fc l v) v,zR Wg fc c w (hd Wg fc (v::l)))
theorem zz(w:Tq):zT Wg c w (hd Wg fc [])=zR Wg fc c w (hd Wg fc []):=by kernel_rfl
theorem Oe(w:Tq):pT Wg fc c w [] (4* 4294967296)=pR Wg fc c w [] (4* 4294967296):=by kernel_rfl
theorem Od(w:Tq):pT Wg fc c w [4* 4294967296] (3* 4294967296)=pR Wg fc c w [4* 4294967296] (3* 4294967296):=by kernel_rfl
theorem Oa(w:Tq):pT Wg fc c w [3* 4294967296,4* 4294967296] (2* 4294967296)=pR Wg fc c w [3* 4294967296,4* 4294967296] (2* 4294967296):=by kernel_rfl
theorem N4(w:Tq):pT Wg fc c w [2* 4294967296,3* 4294967296,4* 4294967296] (1* 4294967296)=pR Wg fc c w [2* 4294967296,3* 4294967296,4* 4294967296] (1* 4294967296):=by kernel_rfl
theorem N7(w:Tq):pT Wg fc c w [3* 4294967296,4* 4294967296] (1* 4294967296)=pR Wg fc c w [3* 4294967296,4* 4294967296] (1* 4294967296):=by kernel_rfl
theorem Ob(w:Tq):pT Wg fc c w [4* 4294967296] (2* 4294967296)=pR Wg fc c w [4* 4294967296] (2* 4294967296):=by kernel_rfl
theorem N5(w:Tq):pT Wg fc c w [2* 4294967296,4* 4294967296] (1* 4294967296)=pR Wg fc c w [2* 4294967296,4* 4294967296] (1* 4294967296):=by kernel_rfl
theorem N8(w:Tq):pT Wg fc c w [4* 4294967296] (1* 4294967296)=pR Wg fc c w [4* 4294967296] (1* 4294967296):=by kernel_rfl
theorem Oc(w:Tq):pT Wg fc c w [] (3* 4294967296)=pR Wg fc c w [] (3* 4294967296):=by kernel_rfl
theorem N_(w:Tq):pT Wg fc c w [3* 4294967296] (2* 4294967296)=pR Wg fc c w [3* 4294967296] (2* 4294967296):=by kernel_rfl
theorem N3(w:Tq):pT Wg fc c w [2* 4294967296,3* 4294967296] (1* 4294967296)=pR Wg fc c w [2* 4294967296,3* 4294967296] (1* 4294967296):=by kernel_rfl
theorem N6(w:Tq):pT Wg fc c w [3* 4294967296] (1* 4294967296)=pR Wg fc c w [3* 4294967296] (1* 4294967296):=by kernel_rfl
theorem N9(w:Tq):pT Wg fc c w [] (2* 4294967296)=pR Wg fc c w [] (2* 4294967296):=by kernel_rfl
theorem N2(w:Tq):pT Wg fc c w [2* 4294967296] (1* 4294967296)=pR Wg fc c w [2* 4294967296] (1* 4294967296):=by kernel_rfl
theorem N1(w:Tq):pT Wg fc c w [] (1* 4294967296)=pR Wg fc c w [] (1* 4294967296):=by kernel_rfl
end
section
variable {P:SI}{Wg:Nat}{Stop:Nat->SG->Prop}
theorem QU{n d d':Nat}{g:SG}(h:∀w,fB w n d g=fA w n d' g):(∀w,fQ SA false w n g=fJ SA false w n g)/\ja SA false n g=true/\bQ (cI SA false n g)=true/\j8 SA false n d g=d':=
 ⟨λw=>(ee (h w)).1,(ee (h default)).2.1,(ee (h default)).2.2.1,(ee (h default)).2.2.2⟩
theorem ya{n d d':Nat}{g:SG}(h:∀w,fB w n d g=fA w n d' g)(hs:∃m,cV SA Stop m d' (cI SA false n g)):∃m,cV SA Stop m d g:=by
 obtain⟨h1,h2,_,h4⟩:=QU h;exact xv n d g h1 h2 (by rw[h4];exact hs)
theorem J8{n d d':Nat}{g:SG}(h:∀w,fB w n d g=fA w n d' g)(hs:∃m,iu SA Wg Stop m d' (cI SA false n g)):∃m,iu SA Wg Stop m d g:=by
 obtain⟨h1,h2,_,h4⟩:=QU h;exact adw n d g h1 h2 (by rw[h4];exact hs)
theorem ail{n:Nat}{g:SG}(h:∀w,Am w n g=Al w n g):∃q,Y_ SA q 0 g:=
 Ih n 0 g (λw=>(ee (h w)).1) (ee (h default)).2.1 (Oj (ee (h default)).2.2.1 (ee (h default)).2.2.2)
theorem arE{d:Nat}{g g':SG}{es:Array Uu}(hr:g.status=.running)(hm:∀e∈es,WK e=true)(h:∀w,stepG P false g w=.go g' w es)(hs:∃m,iu P Wg Stop m (deafBehind d es) g'):∃m,iu P Wg Stop m d g:=by
 obtain⟨m,fZ⟩:=hs;exact⟨m+1,.inr ⟨hr,g',es,hm,λw _ _ _=>h w,fZ⟩⟩
end
set_option maxRecDepth 100000
theorem t173:(SA.underlying 139).map TypeDesc.agg=some false:=by kernel_rfl
theorem Ol{g:SG}{o:Tx}(h:ready g=some o):bQ g=true:=by
 obtain⟨_,_,_,_,_,_,_,_,_,_,_,_,_,_,hr⟩:=ready.out h;unfold bQ;rw[hr]
theorem Ac{g:SG}{f:TS}{vs:Array SQ}(h:cD g=some (f,vs)):bQ g=true:=by
 obtain⟨_,_,_,h1,_,_⟩:=cD.out h;exact Ol h1
theorem Ql{g:SG}{s d:TypeId}{v:SQ}(h:pD g=some (s,d,v)):bQ g=true:=by
 unfold pD at h;split at h
 ·rename_i ho;exact Ol ho
 ·cases h
theorem anY{g:SG}{t:TypeId}{v:SQ}(h:vU g=some (t,v)):bQ g=true:=by
 unfold vU at h;split at h
 ·rename_i ho;exact Ol ho
 ·cases h
section
variable {Wg fc c:Nat}{Im:cE}
theorem Px{n:Nat}{g:SG}(hi:Im fc 0=some (.chan (some c)))(h1:cD g=some (123,#[pW Wg 0])) (h3:∀w,fB w n 0 (fin g (.tuple #[]))=fA w n 0 (fin g (.tuple #[])))
  (h4:vU (cI SA false n (fin g (.tuple #[])))=some (139,pW fc 0)) (h5:re (cI SA false n (fin g (.tuple #[])))=true)
  (h6:x7 (fin (cI SA false n (fin g (.tuple #[]))) (.chan (some c)))=some (.chan (some c))) (h7:re (fin (cI SA false n (fin g (.tuple #[]))) (.chan (some c)))=true) (h8:bQ (fin (cI SA false n (fin g (.tuple #[]))) (.chan (some c)))=true)
  (h9:mayWake SA (fin (cI SA false n (fin g (.tuple #[]))) (.chan (some c)))=true) (h10:∀w,Am w 4 (fin (fin (cI SA false n (fin g (.tuple #[]))) (.chan (some c))) (.tuple #[]))=Al w 4 (fin (fin (cI SA false n (fin g (.tuple #[]))) (.chan (some c))) (.tuple #[]))):uE SA Im c Wg 0 g:=by
 refine⟨rfl,bQ.out (Ac h1),_,λw=>Iv .acquire (λ_ _ h=>by cases h) h1 ahY,?_⟩;refine ya h3 ⟨0,rfl,bQ.out (anY h4),fc,0,_,_,hi,λw hc=> ?_,0,rfl,bQ.out h8,h9,_,λw s hw=> ?_,ail h10⟩
 ·obtain⟨d,c_,kF⟩:=Ts.1 t173;exact arT h4 c_ kF (by simpa[re]using h5) hc
 ·exact arS h6 (by simpa[re]using h7) hw
theorem abx{n1 n2:Nat}{g:SG}(h1:∀w,fB w n1 1 g=fA w n1 1 g)(h2:cD (cI SA false n1 g)=some (112,#[])) (h3:∀w,fB w n2 0 (fin (cI SA false n1 g) (.tuple #[]))=fA w n2 0 (fin (cI SA false n1 g) (.tuple #[])))
  (h4:pD (cI SA false n2 (fin (cI SA false n1 g) (.tuple #[])))=some (158,160,pW Wg 0)) (h5:uE SA Im c Wg 0 (fin (cI SA false n2 (fin (cI SA false n1 g) (.tuple #[]))) (pW Wg 0))):∃n,iu SA Wg (uE SA Im c Wg) n 1 g:=by
 refine J8 h1 ?_;refine arE (bQ.out (Ac h2)) (NG (.inr rfl)) (λw=>Iu (λ_ h=>by cases h) h2 ahV) ?_;refine J8 (d:=deafBehind 1 #[⟨.mark .enable,false,true⟩]) h3 ?_;exact adx (bQ.out (Ql h4)) (λw x y hW=>Iw h4 aeo IB i182 hW.st.1) ⟨0,h5⟩
theorem atM{h:SG}(hi:Im fc 0=some (.chan (some c)))(H:∀w,zT Wg c w h=zR Wg fc c w h):cD h=some (135,#[pW Wg 0])/\∃n,iu SA Wg (uE SA Im c Wg) n 1 (fin h (.int .u64 0)):=by
 have key:∀w,cD h=some ((135:TS),#[pW Wg 0])/\bQ h=true/\fB w 31 1 (fin h (.int .u64 0))=fA w 31 1 (fin h (.int .u64 0))/\cD (zK h)=some ((112:TS),(#[]:Array SQ))/\fB w 3 0 (fin (zK h) (.tuple #[]))=fA w 3 0 (fin (zK h) (.tuple #[]))/\pD (Pe h)=some ((158:TypeId),(160:TypeId),pW Wg 0)/\cD (v_ Wg h)=some ((123:TS),#[pW Wg 0])/\bQ (v_ Wg h)=true/\fB w 22 0 (fin (v_ Wg h) (.tuple #[]))=fA w 22 0 (fin (v_ Wg h) (.tuple #[]))/\vU (EZ Wg h)=some ((139:TypeId),pW fc 0)/\re (EZ Wg h)=true/\x7 (wa Wg c h)=some (XS (some c))/\re (wa Wg c h)=true/\bQ (wa Wg c h)=true/\mayWake SA (wa Wg c h)=true/\Am w 4 (IW Wg c h)=Al w 4 (IW Wg c h):=λw=>by
  have:=H w;unfold zT zR at this;simpa only[U8]using this
 obtain⟨k1,k2,_,k4,_,k6,k7,k8,_,D5,M7,Ba,M8,D6,M9,_⟩:=key default;refine⟨k1,abx (n1:=31) (n2:=3) (λw=>(key w).2.2.1) k4 (λw=>(key w).2.2.2.2.1) k6 ?_⟩;exact Px (n:=22) hi k7 (λw=>(key w).2.2.2.2.2.2.2.2.1) D5 M7 Ba M8 D6 M9 (λw=>(key w).2.2.2.2.2.2.2.2.2.2.2.2.2.2.2)
theorem ahj{b:SG}{v:Nat}(hv:0<v)(hi:Im fc 0=some (.chan (some c)))(H:∀w,fT Wg c w b=fR Wg fc c w b ((v:Int)* 4294967296))(hm:∃n,cV SA (eM SA Im c Wg v) n 1 (NB b)):Fa SA c Wg Im v 1 b:=by
 have key:∀w,cD b=some ((137:TS),#[pW Wg 0,.int .u64 ((v:Int)* 4294967296),.int .u64 ((v:Int)* 4294967296+1)])/\bQ b=true/\fB w 25 1 (fin b (.bool false))=fA w 25 1 (fin b (.bool false))/\fB w 19 1 (fin b (.bool true))=fA w 19 1 (fin b (.bool true))/\pD (f96 b)=some ((165:TypeId),(160:TypeId),pW Wg 1)/\cD (f97 Wg b)=some ((126:TS),#[pW Wg 1])/\bQ (f97 Wg b)=true/\fB w 23 1 (fin (f97 Wg b) (.tuple #[]))=fA w 23 1 (fin (f97 Wg b) (.tuple #[]))/\cD (f121 Wg b)=some ((127:TS),#[pW Wg 1,.bool false])/\(f121 Wg b).offers=none/\fB w 16 1 (fin (f121 Wg b) (.tuple #[]))=fA w 16 1 (fin (f121 Wg b) (.tuple #[]))/\cD (f138 Wg b)=some ((135:TS),#[pW Wg 0])/\fB w 11 1 (fin (f138 Wg b) (.int .u64 0))=fA w 11 1 (fin (f138 Wg b) (.int .u64 0))/\cD (f150 Wg b)=some ((112:TS),(#[]:Array SQ))/\fB w 3 0 (fin (f150 Wg b) (.tuple #[]))=fA w 3 0 (fin (f150 Wg b) (.tuple #[]))/\pD (f154 Wg b)=some ((158:TypeId),(160:TypeId),pW Wg 0)/\cD (f155 Wg b)=some ((123:TS),#[pW Wg 0])/\bQ (f155 Wg b)=true/\fB w 12 0 (fin (f155 Wg b) (.tuple #[]))=fA w 12 0 (fin (f155 Wg b) (.tuple #[]))/\vU (f168 Wg b)=some ((139:TypeId),pW fc 0)/\re (f168 Wg b)=true/\x7 (f169 Wg c b)=some (XS (some c))/\re (f169 Wg c b)=true/\bQ (f169 Wg c b)=true/\mayWake SA (f169 Wg c b)=true/\Am w 4 (f170 Wg c b)=Al w 4 (f170 Wg c b):=λw=>by
  have:=H w;unfold fT fR at this;simpa only[U8]using this
 obtain⟨k1,k2,_,_,k5,k6,k7,_,k9,D5,_,Ba,_,D6,_,M_,Na,k18,_,Nb,Nc,Nd,Nf,Ng,Nh,_⟩:=key default;refine⟨rfl,bQ.out k2,⟨_,λw hW=>arQ k1 QP hW.st.1 hW.st.2.2.1,?_⟩,λu hu=>⟨_,λw hW=>arR k1 QP hW.st.1 hW.st.2.2.1 (λe=> ?_),?_⟩⟩
 ·refine J8 (λw=>(key w).2.2.2.1) ?_;have hs:SA.underlying 165=some (.pointer (IC.choose))/\(SA.info? IC.choose).map (λi=>decide (i.size=0))=some false:=IC.choose_spec;refine adx (bQ.out (Ql k5)) (λw x y hW=>Iw k5 hs.1 IB hs.2 hW.st.2.1) ⟨0,rfl,bQ.out k7,_,λw=>Iv .write (λ_ _ h=>by cases h) k6 ahZ,?_⟩;refine ya (λw=>(key w).2.2.2.2.2.2.2.1) ⟨0,rfl,bQ.out (Ac k9),D5,λw st hW=> ?_,fin (f121 Wg b) (.tuple #[]),λw hW=> ?_,?_⟩
  ·exact arW k9 QN hW.st.2.1
  ·exact arU (n:=1) k9 QN hW.st.2.1 (by decide) hW.st.2.2.2
  ·refine ya (λw=>(key w).2.2.2.2.2.2.2.2.2.2.1) ⟨0,rfl,bQ.out (Ac Ba),_,λw hW=>OK Ba JX hW.st.1,?_⟩;refine abx (n1:=11) (n2:=3) (λw=>(key w).2.2.2.2.2.2.2.2.2.2.2.2.1) D6 (λw=>(key w).2.2.2.2.2.2.2.2.2.2.2.2.2.2.1) M_ ?_;exact Px (n:=12) hi Na (λw=>(key w).2.2.2.2.2.2.2.2.2.2.2.2.2.2.2.2.2.2.1) Nb Nc Nd Nf Ng Nh (λw=>(key w).2.2.2.2.2.2.2.2.2.2.2.2.2.2.2.2.2.2.2.2.2.2.2.2.2)
 ·unfold KK at e;omega
 ·exact ya (λw=>(key w).2.2.1) hm
theorem nc(hi:Im fc 0=some (.chan (some c))){h:SG}{k:Nat}(hz:∀w,zT Wg c w h=zR Wg fc c w h)
  (hv:∀v,0<v->v<=k->v<=4->(∀w,fB w 48 1 (fin h (.int .u64 ((v:Int)* 4294967296)))=fA w 48 1 (fin h (.int .u64 ((v:Int)* 4294967296))))/\(∀w,fT Wg c w (f76 h ((v:Int)* 4294967296))=fR Wg fc c w (f76 h ((v:Int)* 4294967296)) ((v:Int)* 4294967296))/\eM SA Im c Wg v 1 (NB (f76 h ((v:Int)* 4294967296)))):eM SA Im c Wg (k+1) 1 h:=by
 obtain⟨z1,z2⟩:=atM hi hz;rw[eM];refine⟨rfl,bQ.out (Ac z1),λv h1 h2=> ?_⟩;refine⟨_,λw hW=>OK z1 JX hW.st.1,λe=> ?_,λe=> ?_⟩
 ·subst e;exact z2
 ·obtain⟨q1,q2,q3⟩:=hv v (by omega) h1 h2;exact ya q1 ⟨0,ahj (by omega) hi q2 ⟨0,q3⟩⟩
theorem dT{l:List Int}{v:Int}(h:∀w,pT Wg fc c w l v=pR Wg fc c w l v):(∀w,fB w 48 1 (fin (hd Wg fc l) (.int .u64 v))=fA w 48 1 (fin (hd Wg fc l) (.int .u64 v)))/\(∀w,fT Wg c w (bd Wg fc l v)=fR Wg fc c w (bd Wg fc l v) v)/\(∀w,zT Wg c w (hd Wg fc (v::l))=zR Wg fc c w (hd Wg fc (v::l))):=by
 refine⟨λw=>(W5 (h w)).1,λw=>(W5 (W5 (h w)).2).1,λw=>(W5 (W5 (h w)).2).2⟩
end
section
variable (Wg fc c:Nat){Im:cE}
theorem al9(hi:Im fc 0=some (.chan (some c))):eM SA Im c Wg 1 1 (hd Wg fc [1* 4294967296]):=by
 refine nc (k:=0) hi (dT (N1 Wg fc c)).2.2 λv h1 h2 h3=> ?_;omega
theorem ama(hi:Im fc 0=some (.chan (some c))):eM SA Im c Wg 1 1 (hd Wg fc [1* 4294967296,2* 4294967296]):=by
 refine nc (k:=0) hi (dT (N2 Wg fc c)).2.2 λv h1 h2 h3=> ?_;omega
theorem amh(hi:Im fc 0=some (.chan (some c))):eM SA Im c Wg 2 1 (hd Wg fc [2* 4294967296]):=by
 refine nc (k:=1) hi (dT (N9 Wg fc c)).2.2 λv h1 h2 h3=> ?_;rcases(show v=1 by omega)with rfl
 ·exact⟨(dT (N2 Wg fc c)).1,(dT (N2 Wg fc c)).2.1,ama Wg fc c hi⟩
theorem ame(hi:Im fc 0=some (.chan (some c))):eM SA Im c Wg 1 1 (hd Wg fc [1* 4294967296,3* 4294967296]):=by
 refine nc (k:=0) hi (dT (N6 Wg fc c)).2.2 λv h1 h2 h3=> ?_;omega
theorem amb(hi:Im fc 0=some (.chan (some c))):eM SA Im c Wg 1 1 (hd Wg fc [1* 4294967296,2* 4294967296,3* 4294967296]):=by
 refine nc (k:=0) hi (dT (N3 Wg fc c)).2.2 λv h1 h2 h3=> ?_;omega
theorem ami(hi:Im fc 0=some (.chan (some c))):eM SA Im c Wg 2 1 (hd Wg fc [2* 4294967296,3* 4294967296]):=by
 refine nc (k:=1) hi (dT (N_ Wg fc c)).2.2 λv h1 h2 h3=> ?_;rcases(show v=1 by omega)with rfl
 ·exact⟨(dT (N3 Wg fc c)).1,(dT (N3 Wg fc c)).2.1,amb Wg fc c hi⟩
theorem aml(hi:Im fc 0=some (.chan (some c))):eM SA Im c Wg 3 1 (hd Wg fc [3* 4294967296]):=by
 refine nc (k:=2) hi (dT (Oc Wg fc c)).2.2 λv h1 h2 h3=> ?_;rcases(show v=1\/v=2 by omega)with rfl|rfl
 ·exact⟨(dT (N6 Wg fc c)).1,(dT (N6 Wg fc c)).2.1,ame Wg fc c hi⟩
 ·exact⟨(dT (N_ Wg fc c)).1,(dT (N_ Wg fc c)).2.1,ami Wg fc c hi⟩
theorem amg(hi:Im fc 0=some (.chan (some c))):eM SA Im c Wg 1 1 (hd Wg fc [1* 4294967296,4* 4294967296]):=by
 refine nc (k:=0) hi (dT (N8 Wg fc c)).2.2 λv h1 h2 h3=> ?_;omega
theorem amd(hi:Im fc 0=some (.chan (some c))):eM SA Im c Wg 1 1 (hd Wg fc [1* 4294967296,2* 4294967296,4* 4294967296]):=by
 refine nc (k:=0) hi (dT (N5 Wg fc c)).2.2 λv h1 h2 h3=> ?_;omega
theorem amk(hi:Im fc 0=some (.chan (some c))):eM SA Im c Wg 2 1 (hd Wg fc [2* 4294967296,4* 4294967296]):=by
 refine nc (k:=1) hi (dT (Ob Wg fc c)).2.2 λv h1 h2 h3=> ?_;rcases(show v=1 by omega)with rfl
 ·exact⟨(dT (N5 Wg fc c)).1,(dT (N5 Wg fc c)).2.1,amd Wg fc c hi⟩
theorem amf(hi:Im fc 0=some (.chan (some c))):eM SA Im c Wg 1 1 (hd Wg fc [1* 4294967296,3* 4294967296,4* 4294967296]):=by
 refine nc (k:=0) hi (dT (N7 Wg fc c)).2.2 λv h1 h2 h3=> ?_;omega
theorem amc(hi:Im fc 0=some (.chan (some c))):eM SA Im c Wg 1 1 (hd Wg fc [1* 4294967296,2* 4294967296,3* 4294967296,4* 4294967296]):=by
 refine nc (k:=0) hi (dT (N4 Wg fc c)).2.2 λv h1 h2 h3=> ?_;omega
theorem amj(hi:Im fc 0=some (.chan (some c))):eM SA Im c Wg 2 1 (hd Wg fc [2* 4294967296,3* 4294967296,4* 4294967296]):=by
 refine nc (k:=1) hi (dT (Oa Wg fc c)).2.2 λv h1 h2 h3=> ?_;rcases(show v=1 by omega)with rfl
 ·exact⟨(dT (N4 Wg fc c)).1,(dT (N4 Wg fc c)).2.1,amc Wg fc c hi⟩
theorem amm(hi:Im fc 0=some (.chan (some c))):eM SA Im c Wg 3 1 (hd Wg fc [3* 4294967296,4* 4294967296]):=by
 refine nc (k:=2) hi (dT (Od Wg fc c)).2.2 λv h1 h2 h3=> ?_;rcases(show v=1\/v=2 by omega)with rfl|rfl
 ·exact⟨(dT (N7 Wg fc c)).1,(dT (N7 Wg fc c)).2.1,amf Wg fc c hi⟩
 ·exact⟨(dT (Oa Wg fc c)).1,(dT (Oa Wg fc c)).2.1,amj Wg fc c hi⟩
theorem amn(hi:Im fc 0=some (.chan (some c))):eM SA Im c Wg 4 1 (hd Wg fc [4* 4294967296]):=by
 refine nc (k:=3) hi (dT (Oe Wg fc c)).2.2 λv h1 h2 h3=> ?_;rcases(show v=1\/v=2\/v=3 by omega)with rfl|rfl|rfl
 ·exact⟨(dT (N8 Wg fc c)).1,(dT (N8 Wg fc c)).2.1,amg Wg fc c hi⟩
 ·exact⟨(dT (Ob Wg fc c)).1,(dT (Ob Wg fc c)).2.1,amk Wg fc c hi⟩
 ·exact⟨(dT (Od Wg fc c)).1,(dT (Od Wg fc c)).2.1,amm Wg fc c hi⟩
theorem hq_(hi:Im fc 0=some (.chan (some c))):eM SA Im c Wg 5 1 (hd Wg fc []):=by
 refine nc (k:=4) hi (zz Wg fc c) λv h1 h2 h3=> ?_;rcases(show v=1\/v=2\/v=3\/v=4 by omega)with rfl|rfl|rfl|rfl
 ·exact⟨(dT (N1 Wg fc c)).1,(dT (N1 Wg fc c)).2.1,al9 Wg fc c hi⟩
 ·exact⟨(dT (N9 Wg fc c)).1,(dT (N9 Wg fc c)).2.1,amh Wg fc c hi⟩
 ·exact⟨(dT (Oc Wg fc c)).1,(dT (Oc Wg fc c)).2.1,aml Wg fc c hi⟩
 ·exact⟨(dT (Oe Wg fc c)).1,(dT (Oe Wg fc c)).2.1,amn Wg fc c hi⟩
theorem ahp(hi:Im fc 0=some (.chan (some c))):I0 SA Im c Wg (born SA ⟨.fn (.func 100) #[pW Wg 0,pW fc 0],#[]⟩):=by
 have h0:∀w,fB w 7 0 (e0 Wg fc)=fA w 7 0 (e0 Wg fc)/\cD (e7 Wg fc)=some ((111:TS),(#[]:Array SQ))/\fB w 19 1 (e8 Wg fc)=fA w 19 1 (e8 Wg fc):=λw=>by
  have:=c0 Wg fc w;simpa only[U8]using this
 show ∃n,cV SA (eM SA Im c Wg 5) n 0 (e0 Wg fc);refine ya (λw=>(h0 w).1) ?_;refine OG (bQ.out (Ac (h0 default).2.1)) (NG (.inl rfl)) (λw=>Iu (λ_ h=>by cases h) (h0 default).2.1 JW) ?_;exact ya (d:=deafBehind 0 #[⟨.mark .disable,false,true⟩]) (λw=>(h0 w).2.2) ⟨0,hq_ Wg fc c hi⟩
end
open Go.Gg.Tk
section
variable {lv:Bool}{P:SI}{r:Option Nat}{nt:Nat}{E:Env}{V:View}{a:Act}{s:AS}{c:Ub}{Q:Ex->Act->View->Prop}
theorem z_(s3:AS)(ai:At E V s a nt)(h:aQ lv P r nt c s (λe s'=>match e with|.normal=>s'.Sub s3|_=>False))(hQ:∀E' V' a',Kept E E' V V' a a'->At E' V' s3 a' nt->Q .normal a' V'):WP lv P r c Q a V:=
 h E V a Q ai λae e E' V' a' s' hk aV he hΦ=>by
  cases ae<;>cases e<;>first
   |exact he.elim
   |exact hΦ.elim
   |exact hQ E' V' a' hk (aV.sub hΦ)
theorem unwind_mark{lv:Bool}{P:SI}{main:Bool}{J:View->SG->Prop}(C:Closed lv P main J){V:View}{fr:Uf}{cs:List Uf}{b:Nat}{ds:List U3}(h4:fr.defers={target:=.collected b,args:=#[]}::ds) (hm:(fr.mode matches .run)=false) (ho:V.own b=some (.deferred (some []))) (ff:V.role.chan≠some b) (h:J (V.upd b (.deferred none)) (G {fr with defers:=ds} cs)):J V (G fr cs):=by
 refine C.step _ _ rfl λw hw=> ?_;obtain⟨es,w',V',k1,k2,k3⟩:=(Oy (P:=P) ho ff).runs hw;rcases k3 with⟨x,k3,rfl,rfl⟩|⟨_,_,hx⟩
 ·refine⟨G {fr with defers:=ds} cs,w',seen P fr.fn es,_,?_,k1.seen P fr.fn,h⟩;have e:stepG P main (G fr cs) w=unwind P main fr cs none w:=by
   obtain⟨fn,tmps,todo,defers,mode,kind,ro⟩:=fr;cases mode with
   |run=>cases hm
   |returning=>simp[G,stepG]
   |panicking ch=>simp[G,stepG]
  rw[e];simp only[unwind,h4];simp[TE,k3,k2,T_,G]
 ·exact hx.elim
theorem dY{s s':AS}(h:∀p∈s'.T,∃b,look s.T p.1=some b/\Wk b p.2)(hH:s.H=s'.H):s.Sub s':=⟨λ_ _ e=>h _ (o_ e),hH⟩
theorem uV{E:Env}{x v:SQ}(h:ap E (.val x) v):v=x:=by cases h;rfl
theorem FW{E:Env}{cs:Array SQ}(h:cN E [] cs):cs=#[]:=Array.size_eq_zero_iff.1 h.1
theorem QA{E:Env}{l:List SQ}{cs:Array SQ}(h:cN E (l.map .val) cs):cs=l.toArray:=by
 have hs:cs.size=l.length:=by simpa using h.1
 refine Array.ext hs λi h1 h2=> ?_;have hi:i<l.length:=by simpa using h2
 have:=uV (h.2 i (.val l[i]) (by simp[SX hi]));rw[SH,SJ h1]at this;simpa using this
def su (K:Kn)(b:Nat):List SQ:=.bool K.has:: .map (some b)::(K.aA.map (λn:Nat=>SF .u16 n)++(K.hours.map (λn:Nat=>SF .u16 n)++(K.less.map (λn:Nat=>SF .u16 n)++(K.aX.map (λn:Nat=>SF .u16 n)++K.first.map (SF .i64)))))
def sr (K:Kn):Obj:=.map (K.aM.zipIdx.map eF).toArray K.aM.length
theorem ahE{E:Env}{K:Kn}{mp:Nat}{v:SQ}(h:ap E (.agg (K.l mp)) v):v=.agg (su K (E.blk mp)).toArray:=by
 cases h with
 |agg hs h=>
  rename_i cs;congr 1;have hl:(K.l mp).length=(su K (E.blk mp)).length:=by simp[Kn.l,su]
  have key:∀(i:Nat)(x:AV),(K.l mp)[i]?=some x->∀y,ap E x y->(su K (E.blk mp))[i]?=some y:=by
   intro i x hx y hy
   match i with
   |0=>cases hx;rw[uV hy];rfl
   |1=>cases hx;cases hy;rfl
   |i+2=>
    have e:(K.l mp)[i+2]?=((K.aA.map (λn:Nat=>SF .u16 n)++(K.hours.map (λn:Nat=>SF .u16 n)++(K.less.map (λn:Nat=>SF .u16 n)++(K.aX.map (λn:Nat=>SF .u16 n)++K.first.map (SF .i64))))).map AV.val)[i]?:=by
     simp[Kn.l,wv,iv,Yy]
    rw[e,To]at hx;obtain⟨z,h1,rfl⟩:=Ts.1 hx;rw[uV hy];exact h1
  have pX:cs.size=(su K (E.blk mp)).length:=hs.trans hl;refine Array.ext pX λi h1 h2=> ?_;have hi:i<(K.l mp).length:=by omega
  have:=key i _ (SX hi) _ (h i _ (SX hi));rw[SH,SJ h1]at this;have h3:(su K (E.blk mp)).toArray[i]?=some cs[i]:=by simpa using this
  rw[SJ h2]at h3;exact(Wb h3).symm
def rk (x:ak)(deep:Int)(bm:Nat):Spec:=λv _ Ow=>∃b,v=.agg (su (gU x deep bm) b).toArray/\∀b',Ow b'=if b'=b then some (sr (gU x deep bm))else none
set_option maxRecDepth 100000 in
theorem apI:SA.funcs.size=184:=by kernel_rfl
theorem O4{x:ak}{deep:Int}{bm:Nat}(hx:x.Ok)(hA:∀h∈kU x bm,mX h/\∀ns∈gg x h,∀a∈(iE x h ns).map (dE h ns),jF x a):bM (gU x deep bm):=by
 unfold gU;refine KE hx (λt ht=> ?_) D7;obtain⟨h,h1,h2⟩:=S5.1 ht;obtain⟨ns,h3,h4⟩:=OW h2;exact(hA h h1).2 ns h3 t h4
theorem atz{J:View->SG->Prop}(C:zL SA false J){E:Env}{V:View}{x:ak}{bm c Wg:Nat}{deep:Int}{rv tv dv fv:SQ}(hx:x.Ok)(mc:bm<=3)(hA:∀h∈kU x bm,mX h/\∀ns∈gg x h,∀a∈(iE x h ns).map (dE h ns),jF x a)(ak3:Conc E V [])
  (hr:ap E (.rp x.l) rv) (ht:ap E (.rp [iv bm]) tv) (hd:ap E (.rp [iv deep]) dv) (hf:ap E (.rp [.val (.chan (some c))]) fv) (cp:V.role=.work c Wg [rk x deep bm]) (fg:V.deaf=0):J V (born SA ⟨.fn (.func 97) #[pW Wg 0,rv,tv,dv,fv],#[]⟩):=by
 have C':Closed false SA false J:={C with more:=λh=>by cases h};unfold born;rw[apI];refine aer C' (fr:={(default:Uf)with fn:=184,defers:=[⟨.fn (.func 97) #[pW Wg 0,rv,tv,dv,fv],#[]⟩],mode:=.panicking [goexitEntry]}) (ds:=[]) rfl rfl (by kernel_rfl) ?_;refine ah9 (Q:=λa' V'=>∃b,a'.defers=[{target:=.collected b,args:=#[]},⟨.fn (.func 98) #[],#[pW Wg 0]⟩]/\V'.own b=some (.deferred (some []))/\V'.role=.work c Wg []/\V'.deaf=0) C' (by simp) F.f97 rfl ?_ ?_
 rotate_left
 ·rintro a' V' todo ⟨b,h1,h0,h2,h3⟩
  refine unwind_mark C' (ds:=[⟨.fn (.func 98) #[],#[pW Wg 0]⟩]) h1 rfl h0 (by rw[h2];simp[nB.chan]) ?_;refine aer C' (ds:=[]) rfl rfl (by kernel_rfl) ?_;exact ahP Wg a'.tmps todo C h2 h3
 have cQ:cN E [.val (pW Wg 0),.rp x.l,.rp [iv bm],.rp [iv deep],.rp [.val (.chan (some c))]] (#[]++#[pW Wg 0,rv,tv,dv,fv]):=by
  refine⟨rfl,λi a e=> ?_⟩
  match i,e with
  |0,e=>cases e;exact .val _
  |1,e=>cases e;exact hr
  |2,e=>cases e;exact ht
  |3,e=>cases e;exact hd
  |4,e=>cases e;exact hf
 have ai:=Cq (nt:=25) ak3 cQ (by simp);simp only[bk,SU]at ai;refine wp_seq ?_;refine(PV (nt:=25) (n:=0) (ds:=[]) (Φ:=λe s' nN=>e=.normal/\s'=⟨[(0,.val (pW Wg 0)),(1,.rp x.l),(2,.rp [iv bm]),(3,.rp [iv deep]),(4,.rp [.val (.chan (some c))])],[]⟩/\nN=[(.fn (.func 98) [] [],[.val (pW Wg 0)])]) rfl rfl rfl rfl rfl rfl (by kernel_rfl) ?_) E V _ _ ai trivial λae e E1 V1 a1 s1 ds1 iK wM c_ Dc h1=> ?_
 ·(try simp only[seval]);exact⟨_,_,_,rfl⟩
 obtain⟨rfl,rfl,rfl⟩:=h1;cases e<;>first
  |exact Dc.elim
  |skip
 have alc:a1.defers=[⟨.fn (.func 98) #[],#[pW Wg 0]⟩]:=by
  match jn:a1.defers,c_ with
  |[d],c_=>
   obtain⟨⟨f,first,cW,fa,ca,vs,q1,rfl,q3,q4,q5⟩,_⟩:=c_;cases q1;rw[FW q3,FW q4,QA (l:=[pW Wg 0]) q5];rfl
  |[],c_=>exact c_.elim
  |_::_::_,c_=>exact c_.2.elim
 refine wp_seq ?_;refine z_ ⟨[(5,.op 1 0),(0,.val (pW Wg 0)),(1,.rp x.l),(2,.rp [iv bm]),(3,.rp [iv deep]),(4,.rp [.val (.chan (some c))])],[setH [],.cells (Kn.zero.l 0) 88]⟩ wM ?_ λE2 V2 a2 cL ve=> ?_
 ·refine aj ?_;exact dY (by simp only[seval];simp[a_,Wk.refl]) rfl
 refine wp_seq (wp_seq ?_);refine z_ ⟨vP x bm deep c (pW Wg 0),xe x bm Kn.zero⟩ ve ?_ λE3 V3 a3 w5 qH=> ?_
 ·have bS:x.l=[iv x.first,iv x.hours,iv x.am,dt x.seen,aT x.pieces,aT x.aC]:=rfl;refine ah ?_;simp only[seval,bS];refine aH ((Kj (x:=x) (n:=bm) ?_));(try simp only[seval]);exact dY (by unfold vP;simp only[seval];simp[a_,Wk.refl];exact Wk.refl _) rfl
 have ald:a3.defers=[⟨.fn (.func 98) #[],#[pW Wg 0]⟩]:=w5.defers.trans (cL.defers.trans alc);have amo:V3.role=.work c Wg [rk x deep bm]:=w5.role.trans (cL.role.trans (iK.role.trans cp));have ak7:V3.deaf=0:=w5.deaf.trans (cL.deaf.trans (iK.deaf.trans fg));refine am3 (lv:=false) (bs:=[⟨.fn (.func 98) #[],#[pW Wg 0]⟩]) hx mc hA (λe s' cH=>e=.normal/\s'=⟨vP x bm deep c (pW Wg 0),xe x bm (gU x deep bm)++[.obj (.deferred (some [])),.gone]⟩/\cH=[4]) ⟨rfl,rfl,rfl⟩ E3 V3 a3 _ qH ⟨by simp[ald],by simp⟩ λae e E4 V4 a4 s4 ms4 r6 rW alK he4 hΦ4=> ?_;obtain⟨rfl,rfl,rfl⟩:=hΦ4;cases e<;>first
  |exact he4.elim
  |skip
 have ale:a4.defers=[{target:=.collected (E4.blk 4),args:=#[]},⟨.fn (.func 98) #[],#[pW Wg 0]⟩]:=alK.1;have amp:V4.role=.work c Wg [rk x deep bm]:=r6.role.trans amo;have aal:V4.deaf=0:=r6.deaf.trans ak7;have yp:bM (gU x deep bm):=O4 hx hA;generalize hW:gU x deep bm=W at rW yp;have tG:=Kn.len yp 0;refine IL (K:=λs'=>look s'.T 23=some (.val (.chan (some c)))/\look s'.T 24=some (.agg (W.l 0))/\s'.Sub ⟨vP x bm deep c (pW Wg 0),xe x bm W++[.obj (.deferred (some [])),.gone]⟩) 2 1 rfl (by kernel_rfl) rW ?_ λE5 V5 a5 s5 gB kE hK=> ?_
 ·unfold vP xe;(try simp only[seval,tG]);rw[SV (i:=28) (by omega)];exact⟨rfl,dY (by simp only[seval];simp[a_,Wk.refl]) rfl⟩
 obtain⟨l23,l24,mb⟩:=hK;have Gq:=kE.sub mb;have e23:a5.eval (.tmp 23)=.chan (some c):=uV (kE.tok _ _ l23).2;have e24:a5.eval (.tmp 24)=.agg (su W (E5.blk 0)).toArray:=ahE (kE.tok _ _ l24).2;have h0:V5.own (E5.blk 0)=some (sr W):=(Gq.bw.obj 0 (setH W.aM) rfl).1;have h4:V5.own (E5.blk 4)=some (.deferred (some [])):=(Gq.bw.obj 4 (.obj (.deferred (some []))) rfl).1;have aG:E5.blk 4≠E5.blk 0:=λe=>by rw[e,h0]at h4;cases h4
 have hb4:E5.blk 4=E4.blk 4:=gB.le.blk 4 (by rw[rW.bw.n];simp[xe]);refine O8 rfl rfl ?_;refine⟨c,Wg,rk x deep bm,[],λb=>decide (b=E5.blk 0),e23,by rw[gB.role];exact amp,gB.deaf.trans aal,⟨E5.blk 0,by rw[hW];exact e24,λb'=> ?_⟩,?_⟩
 ·rw[hW];by_cases hb:b'=E5.blk 0
  ·subst hb;simp[h0]
  ·simp[hb]
 ·refine⟨trivial,E5.blk 4,?_,?_,rfl,gB.deaf.trans aal⟩
  ·rw[hb4];exact gB.defers.trans ale
  ·show (if decide (E5.blk 4=E5.blk 0)=true then none else V5.own (E5.blk 4))=_;rw[if_neg (by simpa using aG)];exact h4
theorem apk(r:Option Nat):AV.parts (.val (.chan r))=some [.val (.chan r)]:=rfl
theorem atP(r:Option Nat):mr (.chan r)=[.val (.chan r)]:=rfl
theorem anq(r:Option Nat):AV.leaf (.val (.chan r))=true:=rfl
theorem O5{x y:Ub}{t:Nat}{b:Bool}(ai:At E V s a nt)(hl:look s.T t=some (.val (.bool b)))(h:WP lv P r (if b then x else y) Q a V):WP lv P r (.cond (.tmp t) x y) Q a V:=by
 have hd:=(ai.tok t _ hl).2;generalize hx:a.tmps.getD t undef=v at hd;cases hd;exact wp_cond (t:=b) hx h
end
theorem Qw{E:Env}{f:Fn}{first cW:List AV}{v:SQ}(h:ap E (.fn f first cW) v):∃fa ca,v=.func f fa ca/\cN E first fa/\cN E cW ca:=by
 cases h with
 |fn dW f_ h1 h2=>exact⟨_,_,rfl,⟨dW,h1⟩,⟨f_,h2⟩⟩
theorem CA{E:Env}{i o:Nat}{v:SQ}(h:ap E (.op i o) v):v=.pointer (some ⟨E.blk i,o,none⟩):=by cases h;rfl
theorem HJ(x:ak)(n:Nat):∀a∈x.l,Lt n a:=by
 intro a ha;simp only[ak.l,SK,SZ,or_false]at ha;rcases ha with rfl|rfl|rfl|rfl|rfl|rfl
 ·exact .val _
 ·exact .val _
 ·exact .val _
 ·rw[abT];trivial
 ·rw[HH];trivial
 ·rw[HH];trivial
theorem an7(x:ak):Lt 0 (.rp x.l):=by
 rw[zh];exact HJ x 0
set_option maxRecDepth 100000 in
theorem wgT:O0 SA=147:=by kernel_rfl
def ci:Ub->Ub
 |.block _ c|.loop c|.scope c=>c
 |_=> .skip
noncomputable def vR:Ub:=XP.body.getD .skip
noncomputable def mN:Ub:=cs (cs (cs vR))
def th:Obj:=.chan 0 #[] false 0 0 false
def jB:List AV:=bv false:: .val (.map none)::(TM 15 (wv 0)++TM 11 (iv 0))
def dA (x:ak)(deep:Int)(c:Nat):List aa:=[.part 6 x.l 76,.part 1 [iv deep] 3,.cells jB 88,.part 1 [.val (.chan (some c))] 139,.gone]
structure jE (x:ak)(deep:Int)(Hs:List aa)(E:Env)(c Wg:Nat)(rv dv fv:SQ)(T:List (Nat×AV))(M:List aa)(E':Env)(V':View)(a':Act):Prop where
 ai:At E' V' ⟨T,Hs++(dA x deep c++M)⟩ a' 35
 lo:E.Lo E'
 main:E'.main=false
 defers:a'.defers=[]
 deaf:V'.deaf=0
 er:rv=.pointer (some ⟨E'.blk Hs.length,0,none⟩)
 ed:dv=.pointer (some ⟨E'.blk (Hs.length+1),0,none⟩)
 ef:fv=.pointer (some ⟨E'.blk (Hs.length+3),0,none⟩)
 dr:ap E' (.rp x.l) rv
 dd:ap E' (.rp [iv deep]) dv
 df:ap E' (.rp [.val (.chan (some c))]) fv
 fr:∀b y,E.fr b=some y->E'.fr b=some y/\b≠c/\b≠Wg
 ne:c≠Wg
section
variable {x:ak}{deep:Int}{Hs:List aa}{E:Env}{c Wg:Nat}{rv dv fv:SQ}{T T':List (Nat×AV)}{M M' G:List aa}{E1 E2:Env}{V1 V2:View}{a1 a2:Act}
theorem jE.Ix(h:jE x deep Hs E c Wg rv dv fv T M E1 V1 a1)(le:E1.Le E2)(bB:a2.defers=a1.defers)(fg:V2.deaf=V1.deaf)(ai:At E2 V2 ⟨T',Hs++(dA x deep c++M')⟩ a2 35):jE x deep Hs E c Wg rv dv fv T' M' E2 V2 a2:=by
 have hl:∀i,i<5->Hs.length+i<E1.n:=λi hi=>by rw[h.ai.bw.n];simp[dA];omega
 exact⟨ai,h.lo.trans le.lo,le.main.trans h.main,bB.trans h.defers,fg.trans h.deaf,by have:=le.blk _ (hl 0 (by omega));rw[UJ]at this;rw[this];exact h.er,by rw[le.blk _ (hl 1 (by omega))];exact h.ed,by rw[le.blk _ (hl 3 (by omega))];exact h.ef,h.dr.mono le,h.dd.mono le,h.df.mono le,λb y e=>by rw[le.fr];exact h.fr b y e,h.ne⟩
theorem jE.step(h:jE x deep Hs E c Wg rv dv fv T M E1 V1 a1)(hk:Kept E1 E2 V1 V2 a1 a2)(ai:At E2 V2 ⟨T',Hs++(dA x deep c++M')⟩ a2 35):jE x deep Hs E c Wg rv dv fv T' M' E2 V2 a2:=h.Ix hk.le hk.defers hk.deaf ai
theorem jE.to(T':List (Nat×AV))(M':List aa)(h:jE x deep Hs E c Wg rv dv fv T M E1 V1 a1){cd:Ub}{Q:Ex->Act->View->Prop}(hw:aQ true SA none 35 cd ⟨T,Hs++(dA x deep c++M)⟩ (λe s'=>match e with|.normal=>s'.Sub ⟨T',Hs++(dA x deep c++M')⟩|_=>False))
  (hQ:∀E2 V2 a2,Kept E1 E2 V1 V2 a1 a2->jE x deep Hs E c Wg rv dv fv T' M' E2 V2 a2->Q .normal a2 V2):WP true SA none cd Q a1 V1:=
 z_ ⟨T',Hs++(dA x deep c++M')⟩ h.ai hw λE2 V2 a2 hk ai=>hQ E2 V2 a2 hk (h.step hk ai)
theorem jE.cut(h:jE x deep Hs E c Wg rv dv fv T (M++G) E1 V1 a1)(hE:E.n<=Hs.length)(hT:∀p∈T',∃b,look T p.1=some b/\Wk b p.2/\Lt (Hs.length+5+M.length) p.2)(aq:bF (Hs++(dA x deep c++M))):jE x deep Hs E c Wg rv dv fv T' M {E1 with n:=Hs.length+5+M.length} V1 a1:=by
 have hlen:(Hs++(dA x deep c++M)).length=Hs.length+5+M.length:=by simp[dA];omega
 have hc:=h.ai.cut (s':=⟨T',Hs++(dA x deep c++M)⟩) ⟨λt a e=>by
  obtain⟨b,h1,h2,h3⟩:=hT _ (o_ e);exact⟨b,h1,h2,by rw[hlen];exact h3⟩,⟨G,by simp⟩,aq⟩
 simp only[hlen]at hc;exact⟨hc,h.lo.cut (by omega),h.main,h.defers,h.deaf,h.er,h.ed,h.ef,h.dr.trim (by rw[zh];exact HJ x _),h.dd.trim (by simp[zh,ec]),h.df.trim (by simp[zh,ec]),h.fr,h.ne⟩
theorem abw(hH:bF Hs)(hM:∀z∈M,e_ (Hs.length+5+M.length) z):bF (Hs++(dA x deep c++M)):=by
 intro y hy;have hlen:(Hs++(dA x deep c++M)).length=Hs.length+5+M.length:=by simp[dA];omega
 rw[hlen];rcases SS.1 hy with h|h
 ·exact(hH y h).mono (by omega)
 ·rcases SS.1 h with h|h
  ·simp only[dA,SK,SZ,or_false]at h;rcases h with rfl|rfl|rfl|rfl|rfl
   ·exactλa ha=>HJ x _ a ha
   ·intro a ha;simp at ha;subst ha;exact .val _
   ·intro a ha;simp only[jB,SK,SS,XB]at ha;rcases ha with rfl|rfl|⟨_,rfl⟩|⟨_,rfl⟩<;>exact .val _
   ·intro a ha;simp at ha;subst ha;exact .val _
   ·trivial
  ·exact hM y h
end
def po (x:ak)(deep:Int)(i:Nat):List (List Spec):=(S0 i).map λk=>[rk x deep k]
theorem OI(x:ak)(deep:Int)(i:Nat):(po x deep i).length=i:=by simp[po]
theorem arH(x:ak)(deep:Int)(i:Nat):po x deep (i+1)=po x deep i++[[rk x deep i]]:=by simp[po,U4]
def xQ (x:ak):Prop:=∀bm,bm<=3->∀h∈kU x bm,mX h/\∀ns∈gg x h,∀a∈(iE x h ns).map (dE h ns),jF x a
noncomputable def jJ (Hs:List aa)(Wg:Nat)(n:Int)(i:Nat):List (Nat×AV):=[(16,iv i),(15,iv n),(6,.val (pW Wg 0)),(5,.op (Hs.length+3) 0),(4,.op (Hs.length+2) 0),(3,.op (Hs.length+1) 0),(2,.op Hs.length 0)]
structure wh (x:ak)(deep:Int)(Hs:List aa)(E:Env)(c Wg:Nat)(rv dv fv:SQ)(i:Nat)(T:List (Nat×AV))(M:List aa)(E':Env)(V':View)(a':Act):Prop where
 ok:jE x deep Hs E c Wg rv dv fv T M E' V' a'
 role:V'.role=.fork c Wg (po x deep i)
 F9:E'.fr c=some th
 CI:E'.fr Wg=some (wgBlock SA ((i:Int)* 4294967296) 0)
section
variable {x:ak}{deep n:Int}{Hs:List aa}{E:Env}{c Wg i:Nat}{rv dv fv:SQ}{T T':List (Nat×AV)}{M M':List aa}{E1 E2:Env}{V1 V2:View}{a1 a2:Act}
theorem wh.step(h:wh x deep Hs E c Wg rv dv fv i T M E1 V1 a1)(hk:Kept E1 E2 V1 V2 a1 a2)(hc:jE x deep Hs E c Wg rv dv fv T' M' E2 V2 a2):wh x deep Hs E c Wg rv dv fv i T' M' E2 V2 a2:=
 ⟨hc,hk.role.trans h.role,by rw[hk.le.fr];exact h.F9,by rw[hk.le.fr];exact h.CI⟩
theorem ang(hx:x.Ok)(hA:xQ x)(Av:E.n<=Hs.length)(aq:bF (Hs++(dA x deep c++[])))(h:wh x deep Hs E c Wg rv dv fv i (jJ Hs Wg n i) [] E1 V1 a1)(hi:i<=3){cd:Ub}{Q:Ex->Act->View->Prop}(hcd:cd=cs (cs (ci (ci (cs (cf mN))))))
  (hQ:∀E2 V2 a2,wh x deep Hs E c Wg rv dv fv (i+1) (jJ Hs Wg n (i+1)) [] E2 V2 a2->Q .normal a2 V2):WP true SA none cd Q a1 V1:=by
 subst hcd;refine wp_seq (wp_block (wp_seq ?_));refine h.ok.to ((7,.op (Hs.length+5) 0)::jJ Hs Wg n i) [.cells [iv i] 3] ?_ λE2 V2 a2 cL cq=> ?_
 ·unfold jJ dA;refine aj ?_;exact dY (by simp only[seval];simp[a_,Wk.refl]) rfl
 have h2:=h.step cL cq;obtain⟨V3,g3,o3,r3,d3,HB,JE,Qs⟩:=cq.ai.bw.If (id:=Hs.length+5) (by rw[aW];rfl) 1 (by simp);rw[dL]at JE;have LU:Kept E2 {E2 with I:=V3.ab} V2 V3 a2 a2:=⟨HB,rfl,rfl,r3,d3⟩;have dw:=cq.step (T':=(7,.op (Hs.length+5) 0)::jJ Hs Wg n i) (M':=[.part 1 [iv i] 3]) LU ⟨JE,cq.ai.tok.mono HB,cq.ai.size⟩;have h3:=h2.step LU dw;refine WP.ghost g3 ?_;generalize{E2 with I:=V3.ab}=E3 at HB JE Qs LU dw h3;have e6:a2.eval (.tmp 6)=pW Wg 0:=uV (dw.ai.tok 6 (.val (pW Wg 0)) rfl).2;obtain⟨w1,w2,w3⟩:=dw.ai.bw.fr Wg _ h3.CI;have hrc:V3.role.chan≠some Wg:=by rw[h3.role];intro e;cases e;exact dw.ne rfl
 refine wp_seq (aeB rfl rfl (ao3 rfl rfl (by kernel_rfl) ?_));have cQ:(#[avm 6,avy (.int .i64 1)]:Array Tj).map a2.eval=#[pW Wg 0,.int .i64 1]:=by
  simp only[List.map_toArray,U5,List.map_nil,e6];rfl
 rw[cQ];refine(afI (n:=i) (sm:=O0 SA) (by omega) w1 w2 hrc dw.deaf).mono λo V4 hV=> ?_;obtain⟨rfl,rfl⟩:=hV;dsimp only;refine atD ?_;let xC:Obj:=wgBlock SA (((i+1:Nat):Int)* 4294967296) 0;show WP true SA none _ _ (a2.put (some 19) (.tuple #[])) (V3.upd Wg xC);have tn:=dw.ai.bw.ake h3.CI xC;let f4:Nat->Option Obj:=λb'=>if b'=Wg then some xC else E3.fr b';have jP:jE x deep Hs E c Wg rv dv fv ((7,.op (Hs.length+5) 0)::jJ Hs Wg n i) [.part 1 [iv i] 3] (E3.frame f4) (V3.upd Wg xC) (a2.put (some 19) (.tuple #[])):=by
  refine⟨⟨tn,λt av e=> ?_,(eo a2 (some 19) _).trans dw.ai.size⟩,dw.lo.trans (Env.HF E3 f4),dw.main,(put_defers a2 _ _).trans dw.defers,dw.deaf,dw.er,dw.ed,dw.ef,dw.dr.frame f4,dw.dd.frame f4,dw.df.frame f4,λb y e=> ?_,dw.ne⟩
  ·have aG:t≠19:=by
    intro et;subst et;simp[jJ,look]at e
   have:=((dw.ai.tok.frame f4).put (d:=19) (a:=.aO []) (v:=.tuple #[]) (by rw[dw.ai.size];omega) (.aO rfl (by simp))) t av (by simp only[look];rw[if_neg (Ne.symm aG)];exact e);exact this
  ·obtain⟨q1,q2,q3⟩:=dw.fr b y e;exact⟨by show (if b=Wg then _ else _)=_;rw[if_neg q3];exact q1,q2,q3⟩
 have QE:ap (E3.frame f4) (.rp [iv i]) (.pointer (some ⟨(E3.frame f4).blk (Hs.length+5),0,none⟩)):=by
  have hl:Hs.length+5<E2.n:=by rw[cq.ai.bw.n];simp[dA]
  have e:(E3.frame f4).blk (Hs.length+5)=E2.blk (Hs.length+5):=HB.blk _ hl;rw[e];exact Qs.frame f4
 have Ik:(V3.upd Wg xC).role=.fork c Wg (po x deep i):=h3.role;have RM:(E3.frame f4).fr c=some th:=by
  show (if c=Wg then _ else _)=_;rw[if_neg dw.ne];exact h3.F9
 have RN:(E3.frame f4).fr Wg=some xC:=by
  show (if Wg=Wg then _ else _)=_;rw[if_pos rfl]
 generalize E3.frame f4=E4 at jP QE RM RN;generalize V3.upd Wg xC=V4 at jP Ik;generalize a2.put (some 19) (.tuple #[])=a4 at jP;clear tn;refine IL (K:=λs'=>look s'.T 20=some (.fn (.func 97) [] [.val (pW Wg 0),.op Hs.length 0,.op (Hs.length+5) 0,.op (Hs.length+1) 0,.op (Hs.length+3) 0])/\s'.Sub ⟨jJ Hs Wg n i,Hs++(dA x deep c++[.part 1 [iv i] 3])⟩) 1 1 rfl (by kernel_rfl) jP.ai ?_ λE5 V5 a5 s5 gB kE hK=> ?_
 ·unfold jJ dA;(try simp only[seval,Ue,UH,Um,TU]);exact dY (by simp only[seval];simp[a_,Wk.refl]) rfl
 obtain⟨l20,mb⟩:=hK;have Gq:=kE.sub mb;have b_:=jP.step gB Gq;have EB:V5.role=.fork c Wg (po x deep i):=gB.role.trans Ik;have wG:E5.fr c=some th:=by rw[gB.le.fr];exact RM
 have CJ:E5.fr Wg=some xC:=by rw[gB.le.fr];exact RN
 have dk5:=QE.mono gB.le;have oY:Hs.length+5<E4.n:=by rw[jP.ai.bw.n];simp[dA]
 refine O8 rfl rfl ?_;obtain⟨c1,c2,c3⟩:=b_.ai.bw.fr c _ wG;obtain⟨v1,v2,v3⟩:=b_.ai.bw.fr Wg _ CJ;have e20:a5.eval (.tmp 20)=.func (.func 97) #[] #[pW Wg 0,rv,.pointer (some ⟨E5.blk (Hs.length+5),0,none⟩),dv,fv]:=by
  obtain⟨fa,ca,q1,q2,q3⟩:=Qw (kE.tok 20 _ l20).2;rw[FW q2]at q1;refine q1.trans ?_;have Mo:ca.size=5:=q3.1;have k0:=uV (q3.2 0 _ rfl);have k1:=CA (q3.2 1 _ rfl);have k2:=CA (q3.2 2 _ rfl);have k3:=CA (q3.2 3 _ rfl);have k4:=CA (q3.2 4 _ rfl);rw[<- b_.er]at k1;rw[<- b_.ed]at k3;rw[<- b_.ef]at k4;congr 1;refine Array.ext Mo λj h1 h2=> ?_;have hj:j=0\/j=1\/j=2\/j=3\/j=4:=by omega
  rw[SH,SJ (by omega)]at k0 k1 k2 k3 k4;rcases hj with rfl|rfl|rfl|rfl|rfl
  ·exact k0
  ·exact k1
  ·exact k2
  ·exact k3
  ·exact k4
 refine⟨rfl,.tmp 20,97,#[],_,rfl,e20,b_.deaf,.inl ⟨c,Wg,po x deep i,rk x deep i,[],EB,c1,?_,?_,v2,λJ0 C=> ?_,?_⟩⟩
 ·rw[v1,OI]
 ·rw[OI];omega
 ·have hb:E5.blk (Hs.length+5)=E4.blk (Hs.length+5):=gB.le.blk _ oY;rw[hb];have:=atz (J:=J0) (V:={ab:=V5.ab,own:=λ_=>none,deaf:=0,role:=.work c Wg [rk x deep i]}) C hx hi (hA i hi) (ahs b_.ai.bw.I rfl rfl) (b_.dr.bare (an7 x)) (dk5.bare (by simp[zh,ec])) (b_.dd.bare (by simp[zh,ec])) (b_.df.bare (by simp[zh,ec])) rfl rfl;simpa using this
 let V6:View:={V5 with role:=.fork c Wg (po x deep i++[[rk x deep i]])};have JF:Conc (E5.frame E5.fr) V6 (Hs++(dA x deep c++[.part 1 [iv i] 3])):=by
  refine b_.ai.bw.zt (V':=V6) _ rfl (λ_ _ _ _ _ _ h=>h) (λg hg=> ?_) (λg hg=> ?_) (λhm=>by rw[b_.main]at hm;cases hm) b_.ai.bw.fr
  ·cases hg;exact⟨by show V5.own Wg≠none;rw[v1];simp,v2,v3⟩
  ·cases hg;exact⟨by show V5.own c≠none;rw[c1];simp,c2,c3⟩
 have oT:jE x deep Hs E c Wg rv dv fv (jJ Hs Wg n i) [.part 1 [iv i] 3] E5 V6 (a5.put none undef):=⟨⟨JF,b_.ai.tok,b_.ai.size⟩,b_.lo,b_.main,b_.defers,b_.deaf,b_.er,b_.ed,b_.ef,b_.dr,b_.dd,b_.df,b_.fr,b_.ne⟩;show WP true SA none _ _ (a5.put none undef) V6;refine oT.to (jJ Hs Wg n (i+1)) [.part 1 [iv i] 3] ?_ λE7 V7 a7 oX C7=> ?_
 ·unfold jJ dA;have hw:SD.wrap ((i:Int)+1)=(i:Int)+1:=br _ (by omega);refine ah ?_;simp only[seval,hw];exact dY (by simp only[seval];simp[a_,Wk.refl]) rfl
 have fK:=jE.cut (M:=[]) (T':=jJ Hs Wg n (i+1)) C7 Av (by
  unfold jJ;simp only[US,SZ,false_imp_iff,implies_true,and_true,look,ZF,if_false,if_true,Tl,exists_eq_left',Wk.refl,true_and,ec,abR,UA];omega) aq
 refine hQ _ V7 a7 ⟨fK,?_,?_,?_⟩
 ·rw[oX.role,arH]
 ·show E7.fr c=_;rw[oX.le.fr];exact wG
 ·show E7.fr Wg=_;rw[oX.le.fr];exact CJ
end
namespace Tk
theorem acN{hs:List (List Int)}{h:List Int}(hn:hs.Nodup):(jW hs h).Nodup:=by
 unfold jW;split
 ·exact hn
 ·rename_i hm;rw[Vd];exact⟨hn,by simp,λa ha b hb=>by rw[S9.1 hb];exactλe=>hm (e▸ha)⟩
theorem asE{x:ak}{deep:Int}{Q:Kn}{t:List Int}(hn:Q.aM.Nodup):(eK x deep Q t).aM.Nodup:=by
 have hB:(j7 Q t).aM.Nodup:=by unfold j7;split<;>exact hn
 unfold eK;dsimp only;generalize j7 Q t=R at hB;split
 ·exact hB
 ·split
  ·exact acN hB
  ·exact hB
theorem atx{x:ak}{deep:Int}{bm:Nat}:(gU x deep bm).aM.Nodup:=by
 unfold gU;have key:∀(ts:List (List Int))(Q:Kn),Q.aM.Nodup->(ts.foldl (eK x deep) Q).aM.Nodup:=by
  intro ts;induction ts with
  |nil=>exactλQ h=>h
  |cons t ts ih=>exactλQ h=>ih _ (asE h)
 exact key _ _ WQ
theorem Rx:∀{l hs:List (List Int)},(∀y∈hs,y.length=4)->(∀y∈l,y.length=4)->∀y∈l.foldl jW hs,y.length=4
 |[],hs,h1,_=>h1
 |a::l,hs,h1,h2=>by rw[UY];exact Rx (acL h1 (h2 a (by simp))) (λy hy=>h2 y (by simp[hy]))
theorem HZ{l m:List Nat}(h:l.length=m.length):(ml l m).length=l.length:=by simp[ml,h]
theorem H2{l m:List Nat}(h1:∀n∈l,n<65536)(h2:∀n∈m,n<65536):∀n∈ml l m,n<65536:=λn hn=>by
 unfold ml at hn;rw[UW]at hn;obtain⟨i,hi⟩:=hn;rw[List.getElem?_zipWith]at hi;cases ha:l[i]?with
 |none=>rw[ha]at hi;cases hi
 |some a=>
  cases hb:m[i]?with
  |none=>rw[ha,hb]at hi;cases hi
  |some b=>
   rw[ha,hb]at hi;cases hi;exact qh (h1 _ (S8 ha)) (h2 _ (S8 hb))
theorem abm{F G:Kn}{hs:List (List Int)}(hF:bM F)(hG:bM G)(hp:hs.Perm G.aM):bM (ig F hs G):=by
 unfold ig;split
 ·refine⟨(HZ (by rw[hF.aA,hG.aA])).trans hF.aA,(HZ (by rw[hF.hours,hG.hours])).trans hF.hours,(HZ (by rw[hF.less,hG.less])).trans hF.less,(HZ (by rw[hF.aX,hG.aX])).trans hF.aX,?_,H2 hF.mP hG.mP,H2 hF.nb hG.nb,H2 hF.nk hG.nk,H2 hF.mm hG.mm,Rx hF.h4 λy hy=>hG.h4 y (hp.mem_iff.1 hy)⟩;split
  ·exact hG.first
  ·exact hF.first
 ·exact hF
inductive oB (x:ak)(deep:Int):List Nat->Kn->Prop where
 |nil:oB x deep [] Kn.zero
 |snoc {js:List Nat} {F:Kn} {j:Nat} {hs:List (List Int)} (h:oB x deep js F) (hp:hs.Perm (gU x deep j).aM):oB x deep (js++[j]) (ig F hs (gU x deep j))
end Tk
theorem xQ.work{x:ak}{deep:Int}{j:Nat}(hA:xQ x)(hx:x.Ok)(hj:j<=3):bM (gU x deep j):=O4 hx (hA j hj)
def nu (x:ak)(deep:Int)(n:Nat)(js:List Nat):List (List Spec):=(S0 n).map λk=>if k∈js then[]else[rk x deep k]
theorem arK(x:ak)(deep:Int)(n:Nat):nu x deep n []=po x deep n:=by simp[nu,po]
theorem arJ{x:ak}{deep:Int}{n j:Nat}{js:List Nat}{sp:Spec}{S:List Spec}(h:(nu x deep n js)[j]?=some (sp::S)):j<n/\j∉js/\sp=rk x deep j/\S=[]:=by
 unfold nu at h;rw[To]at h;obtain⟨k,h1,h2⟩:=Ts.1 h;have hk:j<n/\k=j:=by
  have:=SN.1 h1;obtain⟨h3,h4⟩:=this;simp at h3 h4;exact⟨h3,h4.symm⟩
 obtain⟨h3,rfl⟩:=hk;split at h2
 ·cases h2
 ·rename_i hm;cases h2;exact⟨h3,hm,rfl,rfl⟩
theorem arL{x:ak}{deep:Int}{n j:Nat}{js:List Nat}:(nu x deep n js).set j []=nu x deep n (js++[j]):=by
 apply Yp;intro k;unfold nu;rw[UV,To,To,Ta,ZY];by_cases hk:k<n
 ·rw[XC hk];by_cases hj:j=k
  ·subst hj;rw[if_pos rfl,if_pos hk];simp
  ·rw[if_neg hj];have e:(k∈js++[j])<->k∈js:=by
    rw[SS,S9];exact⟨λh=>h.elim id λe=>absurd e.symm hj,.inl⟩
   simp only[UU,e]
 ·have e:(S0 n)[k]?=none:=Ux (by simp;omega);rw[e];by_cases hj:j=k
  ·subst hj;rw[if_pos rfl,if_neg hk];rfl
  ·rw[if_neg hj];rfl
theorem arI{x:ak}{deep:Int}{n:Nat}{js:List Nat}(h:∀S∈nu x deep n js,S=[]):∀k,k<n->k∈js:=λk hk=>by
 apply Tv;intro hn;have:=h [rk x deep k] (Tm.2 ⟨k,by simpa using hk,by rw[if_neg hn]⟩);cases this
theorem ane{E:Env}{K:Kn}{mp b:Nat}(hb:E.blk mp=b)(hm:mp<E.n):ap E (.agg (K.l mp)) (.agg (su K b).toArray):=by
 subst hb;refine .agg (by simp[Kn.l,su]) λi a e=> ?_
 match i with
 |0=>cases e;exact .val _
 |1=>cases e;exact .mp hm
 |i+2=>
  have e':(K.l mp)[i+2]?=((K.aA.map (λn:Nat=>SF .u16 n)++(K.hours.map (λn:Nat=>SF .u16 n)++(K.less.map (λn:Nat=>SF .u16 n)++(K.aX.map (λn:Nat=>SF .u16 n)++K.first.map (SF .i64))))).map AV.val)[i]?:=by
   simp[Kn.l,wv,iv,Yy]
  rw[e',To]at e;obtain⟨z,h1,rfl⟩:=Ts.1 e;have h2:(su K (E.blk mp))[i+2]?=some z:=h1;rw[SH,Vm,h2];exact .val _
theorem vQ(K:Kn)(mp:Nat):∀a∈K.l mp,a.leaf=true:=λa ha=>by
 simp only[Kn.l,SK,SS,Tm]at ha;rcases ha with rfl|rfl|⟨_,_,rfl⟩|⟨_,_,rfl⟩|⟨_,_,rfl⟩|⟨_,_,rfl⟩|⟨_,_,rfl⟩<;>rfl
theorem agy{lv:Bool}{P:SI}{r:Option Nat}{nt:Nat}{E:Env}{V:View}{a:Act}{s:AS}{c:Ub}{Q:Ex->Act->View->Prop}{α:Type}(p:α->Prop)(S3:α->AS)(ai:At E V s a nt)(h:aQ lv P r nt c s (λe s'=>match e with|.normal=>∃q,p q/\s'.Sub (S3 q)|_=>False))(hQ:∀q E' V' a',p q->Kept E E' V V' a a'->At E' V' (S3 q) a' nt->Q .normal a' V'):WP lv P r c Q a V:=
 h E V a Q ai λae e E' V' a' s' hk aV he hΦ=>by
  cases ae<;>cases e<;>first
   |exact he.elim
   |exact hΦ.elim
   |(obtain⟨q,h1,h2⟩:=hΦ
     exact hQ q E' V' a' h1 hk (aV.sub h2))
theorem ahG{E:Env}(l:List SQ):ap E (.agg (l.map .val)) (.agg l.toArray):=by
 refine .agg (by simp) λi a e=> ?_;rw[To]at e;obtain⟨z,h1,rfl⟩:=Ts.1 e;rw[SH,Vm,h1];exact .val _
def Pg:List SQ:=.bool false:: .map none::(TM 15 (.int .u16 0)++TM 11 (.int .i64 0))
def iC (Hs:List aa)(F:Kn):List aa:=[setH F.aM,.cells (F.l (Hs.length+5)) 88]
noncomputable def jy (Hs:List aa):List (Nat×AV):=[(8,.op (Hs.length+6) 0),(5,.op (Hs.length+3) 0),(4,.op (Hs.length+2) 0)]
structure Fu (x:ak)(deep:Int)(n:Nat)(Hs:List aa)(E:Env)(c Wg:Nat)(rv dv fv:SQ)(js:List Nat)(F:Kn)(T:List (Nat×AV))(G:List aa)(E':Env)(V':View)(a':Act):Prop where
 ok:jE x deep Hs E c Wg rv dv fv T (iC Hs F++G) E' V' a'
 role:V'.role=.recv c Wg (nu x deep n js)
 abn:oB x deep js F
 kn:bM F
 nodup:js.Nodup
 lt:∀j∈js,j<n
noncomputable def abv:Ub:=ci (ci (cs (cs (cs mN))))
theorem anf{x:ak}{deep:Int}{Hs:List aa}{c:Nat}{F:Kn}(hH:bF Hs):bF (Hs++(dA x deep c++iC Hs F)):=by
 refine abw hH λz hz=> ?_;simp only[iC,SK,SZ,or_false]at hz;rcases hz with rfl|rfl
 ·trivial
 ·exact y9 (by simp[iC])
theorem aoh{V:View}{Im:cE}{b:Nat}{K:Kn}{w:Tq}(hS:Sat V w)(hI:∀b o x,Im b o=some x->w.cell? ⟨b,o,none⟩=some x)(hb:w.heap[b]?=some (sr K)):∀o,V.ab b o=none/\Im b o=none:=λo=>by
 have hc:w.cell? ⟨b,o,none⟩=none:=by simp[UC,hb,sr]
 constructor
 ·cases h:V.ab b o with
  |none=>rfl
  |some v=>have:=hS.ab b o v h;rw[hc]at this;cases this
 ·cases h:Im b o with
  |none=>rfl
  |some v=>have:=hI b o v h;rw[hc]at this;cases this
section
variable {x:ak}{deep:Int}{n:Nat}{Hs:List aa}{E:Env}{c Wg:Nat}{js:List Nat}{D:Kn}{rv dv fv:SQ}{T T':List (Nat×AV)}{G G':List aa}{E1 E2:Env}{V1 V2:View}{a1 a2:Act}
theorem anh(hx:x.Ok)(hA:xQ x)(hn4:n<=4)(Av:E.n<=Hs.length)(bC:bF Hs)(h:Fu x deep n Hs E c Wg rv dv fv js D (jy Hs) [] E1 V1 a1){Q:Ex->Act->View->Prop}
  (hQ:∀j D' E2 V2 a2,j∉js->Fu x deep n Hs E c Wg rv dv fv (js++[j]) D' (jy Hs) [] E2 V2 a2->Q .normal a2 V2)
  (Gl:∀E2 V2 a2 G,At E2 V2 ⟨[(4,.op (Hs.length+2) 0)],Hs++([.part 6 x.l 76,.part 1 [iv deep] 3,.cells (D.l (Hs.length+5)) 88,.part 1 [.val (.chan (some c))] 139,.gone,setH D.aM]++G)⟩ a2 35->E.Lo E2->a2.defers=[]->V2.deaf=0->V2.role=.plain->(∀b y,E.fr b=some y->E2.fr b=some y)->(∀k,k<n->k∈js)->Q .ret a2 V2):WP true SA none abv Q a1 V1:=by
 refine wp_block (id:=3) (wp_seq ?_);refine IL (K:=λs'=>look s'.T 26=some (.val (.chan (some c)))/\s'.Sub ⟨jy Hs,Hs++(dA x deep c++(iC Hs D++[]))⟩) 1 7 rfl (by kernel_rfl) h.ok.ai ?_ λE3 V3 a3 s3 w5 qH hK=> ?_
 ·unfold jy dA iC;(try simp only[seval]);exact dY (by simp only[seval];simp[a_,Wk.refl]) rfl
 obtain⟨l26,mb⟩:=hK;have dw:=h.ok.step w5 (qH.sub mb);have ro3:V3.role=.recv c Wg (nu x deep n js):=w5.role.trans h.role;have e26:a3.eval (.tmp 26)=.chan (some c):=uV (qH.tok 26 _ l26).2;obtain⟨ti,xb,hzi⟩:=Tf.1 F.Pt;refine atC rfl rfl (.inr ?_);refine⟨rfl,c,Wg,nu x deep n js,.both,88,ti,_,e26,by kernel_rfl,xb,hzi,ro3,dw.deaf,λj sp S v Im Ow r1 r2 r3 r4 r5=> ?_,λhS=> ?_⟩
 ·
  obtain⟨mE,iJ,rfl,rfl⟩:=arJ r1;obtain⟨b,hv,KY⟩:=r2;have yp:bM (gU x deep j):=hA.work hx (by omega);have Sq:(gU x deep j).aM.Nodup:=atx;obtain⟨W,hW⟩:∃W,W=gU x deep j:=⟨_,rfl⟩;rw[<- hW]at hv KY yp Sq;let qv:View:={V3 with ab:=λb o=>match V3.ab b o with|some x=>some x|none=>Im b o,role:=.recv c Wg ((nu x deep n js).set j [])};obtain⟨abz,Qk⟩:=dw.ai.bw.anG (V':=qv) rfl (λb o v e=>by show (match V3.ab b o with|some x=>some x|none=>Im b o)=some v;rw[e]) (λb o hb e=>by
   show (match V3.ab b o with|some x=>some x|none=>Im b o)=none;rw[e];apply Tv;intro aG;exact absurd e (r4 b o hb aG)) rfl rfl (λhm=>by rw[dw.main]at hm;cases hm)
  have KX:Ow b=some (sr W):=by rw[KY];simp
  obtain⟨w,hSw,hIw,MN⟩:=r5;have g_:=aoh hSw hIw (MN b _ KX);have eE:V3.own b=none:=by
   apply Tv;intro aG;have:=r3 b aG;rw[KX]at this;cases this
  have Lw:qv.fresh b:=⟨eE,λo=>by
   show (match V3.ab b o with|some x=>some x|none=>Im b o)=none;rw[(g_ o).1];exact(g_ o).2⟩
  have alE:E3.n=Hs.length+7:=by rw[dw.ai.bw.n];simp[dA,iC]
  have tn:=Qk.add Lw (sr W) (x:=.obj (sr W)) ⟨by rw[Env.dQ];simp[View.upd],rfl,rfl,λo=>by rw[Env.dQ];exact Lw.2 o⟩ (λb' e=>by
   simp only[bP,Env.dQ,Tl]at e;exact e.symm)
  have Sn:qv.upd b (sr W)={V3 with ab:=λb o=>match V3.ab b o with|some x=>some x|none=>Im b o,own:=λb=>match V3.own b with|some x=>some x|none=>Ow b,role:=.recv c Wg ((nu x deep n js).set j [])}:=by
   have:(λb'=>if b'=b then some (sr W)else V3.own b')=λb=>match V3.own b with|some x=>some x|none=>Ow b:=by
    funext b';by_cases hb:b'=b
    ·subst hb;rw[if_pos rfl,eE,KX]
    ·rw[if_neg hb];cases dI:V3.own b' with
     |some y=>rfl
     |none=>simp[KY,hb]
   show View.mk _ _ _ _=View.mk _ _ _ _;congr 1
  have R_:(({E3 with I:=qv.ab}:Env).add b qv.ab).blk (Hs.length+7)=b:=by rw[<- alE];exact Env.dQ ({E3 with I:=qv.ab}:Env) b _
  have No:E3.Le (({E3 with I:=qv.ab}:Env).add b qv.ab):=abz.trans (Env.q_ _ b λ_ _ _ e=>e);have alL:(({E3 with I:=qv.ab}:Env).add b qv.ab).n=Hs.length+8:=by show E3.n+1=_;omega
  rw[Sn]at tn;generalize hE4:(({E3 with I:=qv.ab}:Env).add b qv.ab)=E4 at tn R_ No alL;have bt:ap E4 (.aO [.agg (W.l (Hs.length+7)),bv true]) (.tuple #[v,.bool true]):=by
   subst hv;refine .aO rfl λq a e=> ?_
   match q,e with
   |0,e=>cases e;exact ane R_ (by omega)
   |1,e=>cases e;exact .val _
  have akG:Hs++(dA x deep c++(iC Hs D++[]))++[aa.obj (sr W)]=Hs++(dA x deep c++(iC Hs D++[setH W.aM])):=by simp[setH,sr]
  rw[akG]at tn;clear Sn hE4 Qk abz Lw;generalize So:({V3 with ab:=λb o=>match V3.ab b o with|some x=>some x|none=>Im b o,own:=λb=>match V3.own b with|some x=>some x|none=>Ow b,role:=.recv c Wg ((nu x deep n js).set j [])}:View)=V4 at tn;have Ik:V4.role=.recv c Wg (nu x deep n (js++[j])):=by rw[<- So];show nB.recv c Wg _=_;rw[arL]
  have de4:V4.deaf=V3.deaf:=by rw[<- So]
  have rW:At E4 V4 ⟨(27,.aO [.agg (W.l (Hs.length+7)),bv true])::jy Hs,Hs++(dA x deep c++(iC Hs D++[setH W.aM]))⟩ (a3.put (some 27) (.tuple #[v,.bool true])) 35:=⟨tn,(dw.ai.tok.mono No).put (by rw[dw.ai.size];omega) bt,(eo a3 (some 27) _).trans dw.ai.size⟩;have jP:jE x deep Hs E c Wg rv dv fv ((27,.aO [.agg (W.l (Hs.length+7)),bv true])::jy Hs) (iC Hs D++[setH W.aM]) E4 V4 (a3.put (some 27) (.tuple #[v,.bool true])):=
   dw.Ix No (put_defers a3 _ _) de4 rW
  have tG:=Kn.len yp (Hs.length+7);refine O9 ⟨(10,bv true)::(9,.op (Hs.length+8) 0)::jy Hs,Hs++(dA x deep c++(iC Hs D++[setH W.aM,.cells (W.l (Hs.length+7)) 88]))⟩ rfl (by kernel_rfl) rW ?_ λE5 V5 a5 gB kE=> ?_
  ·unfold jy dA iC;(try simp only[seval,tG]);exact⟨vQ _ _,dY (by simp only[seval];simp[a_,Wk.refl]) rfl⟩
  have b_:=jP.step gB kE;have EB:V5.role=.recv c Wg (nu x deep n (js++[j])):=gB.role.trans Ik;refine wp_seq (wp_seq ?_);refine b_.to ((31,bv false)::(9,.op (Hs.length+8) 0)::jy Hs) (iC Hs D++[setH W.aM,.cells (W.l (Hs.length+7)) 88]) ?_ λE6 V6 a6 LS oT=> ?_
  ·unfold jy dA iC;refine aj ?_;exact dY (by simp only[seval];simp[a_,Wk.refl]) rfl
  refine O5 oT.ai rfl ?_;refine wp_skip ?_;refine agy (λhs:List (List Int)=>hs.Perm W.aM) (λhs=>⟨jy Hs,Hs++(dA x deep c++(iC Hs (ig D hs W)++[setH W.aM,.cells (W.l (Hs.length+7)) 88]))⟩) oT.ai ?_ λhs E7 V7 a7 Mc oX K9=> ?_
  ·unfold jy dA iC;refine ah ?_;simp only[seval,tG];rw[SV (i:=28) (by omega)];refine aH ((aiD (fp:=Hs.length+6) (mp:=Hs.length+5) (mg:=Hs.length+7) h.kn yp (by omega) (by omega) (by rw[aW];rfl) (by rw[aW];rfl) (by rw[aW];rfl) Sq ?_));intro hs hp;rw[dL,dL];(try simp only[seval]);exact⟨hs,hp,dY (by simp only[seval];simp[a_,Wk.refl]) rfl⟩
  have C7:=oT.step oX K9;have fK:=jE.cut (T':=jy Hs) C7 Av (by
   unfold jy iC;simp only[US,SZ,false_imp_iff,implies_true,and_true,look,ZF,if_false,if_true,Tl,exists_eq_left',Wk.refl,true_and,abR,Ui,UA];omega) (anf bC)
  have jQ:oB x deep (js++[j]) (ig D hs W):=by
   rw[hW]at Mc⊢;exact h.abn.snoc Mc
  refine hQ j (ig D hs W) _ V7 a7 iJ ⟨by rw[SO];exact fK,?_,jQ,abm h.kn yp Mc,?_,?_⟩
  ·rw[oX.role,LS.role];exact EB
  ·rw[Vd];exact⟨h.nodup,by simp,λa ha b hb=>by rw[S9.1 hb];exactλe=>iJ (e▸ha)⟩
  ·intro k hk;rcases SS.1 hk with h'|h'
   ·exact h.lt k h'
   ·rw[S9.1 h'];exact mE
 ·
  have eQ:=arI hS;let V4:View:={V3 with role:=.plain};have tn:Conc (E3.frame E3.fr) V4 (Hs++(dA x deep c++(iC Hs D++[]))):=
   dw.ai.bw.zt (V':=V4) _ rfl (λ_ _ _ _ _ _ h=>h) (λg hg=>by cases hg) (λg hg=>by cases hg) (λhm=>by rw[dw.main]at hm;cases hm) dw.ai.bw.fr
  have bt:ap E3 (.aO [.agg jB,bv false]) (.tuple #[.agg Pg.toArray,.bool false]):=by
   refine .aO rfl λq a e=> ?_
   match q,e with
   |0,e=>cases e;exact ahG Pg
   |1,e=>cases e;exact .val _
  have rW:At E3 V4 ⟨(27,.aO [.agg jB,bv false])::jy Hs,Hs++(dA x deep c++(iC Hs D++[]))⟩ (a3.put (some 27) (.tuple #[.agg Pg.toArray,.bool false])) 35:=⟨tn,dw.ai.tok.put (by rw[dw.ai.size];omega) bt,(eo a3 (some 27) _).trans dw.ai.size⟩;have jP:=dw.Ix (V2:=V4) (Env.Le.refl E3) (put_defers a3 (some 27) _) rfl rW;have o4:jB.length=28:=rfl;have b9:=Kn.len h.kn (Hs.length+5);refine O9 ⟨(10,bv false)::jy Hs,Hs++(dA x deep c++(iC Hs D++[.cells jB 88]))⟩ rfl (by kernel_rfl) rW ?_ λE5 V5 a5 gB kE=> ?_
  ·unfold jy dA iC;(try simp only[seval,o4]);exact⟨λa ha=>by simp only[jB,SK,SS,XB]at ha;rcases ha with rfl|rfl|⟨_,rfl⟩|⟨_,rfl⟩<;>rfl,dY (by simp only[seval];simp[a_,Wk.refl]) rfl⟩
  have b_:=jP.step gB kE;refine wp_seq (wp_seq ?_);refine b_.to ((31,bv true)::jy Hs) (iC Hs D++[.cells jB 88]) ?_ λE6 V6 a6 LS oT=> ?_
  ·unfold jy dA iC;refine aj ?_;exact dY (by simp only[seval];simp[a_,Wk.refl]) rfl
  refine O5 oT.ai rfl ?_;refine wp_seq ?_;refine z_ ⟨[(4,.op (Hs.length+2) 0)],Hs++([.part 6 x.l 76,.part 1 [iv deep] 3,.cells (D.l (Hs.length+5)) 88,.part 1 [.val (.chan (some c))] 139,.gone,setH D.aM]++[.cells (D.l (Hs.length+5)) 88,.cells jB 88])⟩ oT.ai ?_ λE7 V7 a7 oX K9=> ?_
  ·unfold jy dA iC;refine ah ?_;simp only[seval,b9,o4];rw[SV (i:=28) (l:=D.l (Hs.length+5)) (by omega)];exact⟨b9,by omega,vQ _ _,dY (by simp only[seval];simp[a_,Wk.refl]) (by rw[b9,T7 (by rw[o4];exact SP _),SO])⟩
  refine wp_ret ?_;exact Gl E7 V7 a7 _ K9 (oT.lo.trans oX.le.lo) (oX.defers.trans oT.defers) (oX.deaf.trans oT.deaf) (oX.role.trans (LS.role.trans gB.role)) (λb y e=>by rw[oX.le.fr];exact(oT.fr b y e).1) eQ
end
open Go.Conc Go.Proofs Go.Gg.Tk
theorem aqI{P:SI}{rs:List UT}{fn:YD}{nt:Nat}{k kp:AV->List aa->Prop}{E E':Env}{V V':View}{H L G:List aa}{T:List (Nat×AV)}{a':Act}{av:AV}(hr:fn.results=rs.toArray)(ai:At E' V' ⟨T,H.map strip++(L++G)⟩ a' nt)(pQ:E.Lo E')(hc:Conc E V H)(cp:V'.role=V.role)(fg:V'.deaf=V.deaf)(hf:∀b y,E.fr b=some y->E'.fr b=some y)
  (gC:ik P ⟨T,H.map strip++(L++G)⟩ rs=some [av]) (hL:L.map strip=L) (aq:bF (H.map strip++L)) (hlt:Lt (H.length+L.length) av) (hk:k av (H++L)):∃v,aR P V' (results fn a'.tmps) (λx aU=>x=v/\aU=V') (λ_ _=>False)/\gW E V k kp (.ret v) V':=by
 obtain⟨vs,hl,mh,yN⟩:=Ii ai rs [av] gC;obtain⟨v,rfl⟩:∃v,vs=[v]:=List.length_eq_one_iff.1 hl;have bt:ap E' av v:=mh 0 av rfl;have qV:aR P V' (results fn a'.tmps) (λx aU=>x=v/\aU=V') (λ_ _=>False):=by
  unfold results;rw[hr,X4];refine az ?_;refine az (yN ?_);refine au (au ⟨?_,rfl⟩);simp
 have Lh:=ai.bw;dsimp only at Lh;rw[<- SC]at Lh;have fK:=Lh.trim (H:=H.map strip++L) (G:=G) aq;have hlen:(H.map strip++L).length=H.length+L.length:=by simp
 rw[hlen]at fK;have vA:(H++L).map strip=H.map strip++L:=by rw[Tn,hL]
 rw[<- vA]at fK;refine⟨v,qV,av,((({E' with n:=H.length+L.length}:Env).fy E.main).frame E.fr),H++L,?_,cp,fg,?_,fK.aqz E.main E.fr (λk e=> ?_) (λe=>by rw[cp,fg];exact hc.top e) hf,hk⟩
 ·refine Env.Lo.le (E':={E' with n:=H.length+L.length}) ⟨pQ.I,?_,pQ.blk,pQ.fH,pQ.room⟩;show E.n<=H.length+L.length;rw[hc.n];omega
 ·exact((bt.trim hlt).fy E.main).frame E.fr
 ·by_cases Dl:k<H.length
  ·rw[SY Dl]at e;exact hc.obj k _ e
  ·rw[S_ (by omega)]at e;have h2:(L.map strip)[k-H.length]?=some .gone:=(by rw[To,e];rfl);rw[hL,e]at h2;cases h2
section
variable {x:ak}{deep:Int}{Hs:List aa}{E:Env}{c Wg p:Nat}{rv dv fv:SQ}{T:List (Nat×AV)}{E1:Env}{V1:View}{a1:Act}
theorem ani(hx:x.Ok)(hA:xQ x)(hp:x.am=p)(Av:E.n<=Hs.length)(bC:bF Hs)(h:wh x deep Hs E c Wg rv dv fv 0 [(6,.val (pW Wg 0)),(5,.op (Hs.length+3) 0),(4,.op (Hs.length+2) 0),(3,.op (Hs.length+1) 0),(2,.op Hs.length 0)] [] E1 V1 a1){Q:Ex->Act->View->Prop}
  (hQ:∀js D E2 V2 a2 G,js.Perm (S0 (p+1))->oB x deep js D->bM D->At E2 V2 ⟨[(4,.op (Hs.length+2) 0)],Hs++([.part 6 x.l 76,.part 1 [iv deep] 3,.cells (D.l (Hs.length+5)) 88,.part 1 [.val (.chan (some c))] 139,.gone,setH D.aM]++G)⟩ a2 35->E.Lo E2->a2.defers=[]->V2.deaf=0->V2.role=.plain->(∀b y,E.fr b=some y->E2.fr b=some y)->Q .ret a2 V2):WP true SA none mN Q a1 V1:=by
 have hp3:p<=3:=by have:=hx.am;omega
 have alX:bF (Hs++(dA x deep c++[])):=abw bC (by simp);refine wp_seq (x:=cf mN) (wp_seq (x:=cf (cf mN)) ?_);refine h.ok.to (jJ Hs Wg ((p+1:Nat):Int) 0) [] ?_ λE2 V2 a2 cL cq=> ?_
 ·show aQ true SA none 35 (cf (cf mN)) _ _;unfold jJ dA;have bS:x.l=[iv x.first,iv x.hours,iv x.am,dt x.seen,aT x.pieces,aT x.aC]:=rfl;have hw:SD.wrap (x.am+1)=((p+1:Nat):Int):=by rw[hp,br _ (by omega)];rfl
  refine ah ?_;simp only[seval,bS,hw];exact dY (by simp only[seval];simp[a_,Wk.refl]) rfl
 have h2:wh x deep Hs E c Wg rv dv fv 0 (jJ Hs Wg ((p+1:Nat):Int) 0) [] E2 V2 a2:=h.step cL cq;refine wp_block (id:=0) (c:=.loop (ci (ci (cs (cf mN))))) ?_;refine wp_loop (λm a' V'=>∃E' i,m=p+1-i/\i<=p+1/\wh x deep Hs E c Wg rv dv fv i (jJ Hs Wg ((p+1:Nat):Int) i) [] E' V' a') (p+1) ⟨E2,0,rfl,by omega,h2⟩ λm a3 V3 hI=> ?_;obtain⟨E3,i,rfl,hi,h3⟩:=hI;refine wp_seq (x:=cf (ci (ci (cs (cf mN))))) (y:=cs (ci (ci (cs (cf mN))))) ?_;refine h3.ok.to ((17,bv (decide ((i:Int)<((p+1:Nat):Int))))::jJ Hs Wg ((p+1:Nat):Int) i) [] ?_ λE4 V4 a4 r6 jP=> ?_
 ·show aQ true SA none 35 (cf (ci (ci (cs (cf mN))))) _ _;unfold jJ dA;refine aj ?_;exact dY (by simp only[seval];simp[a_,Wk.refl]) rfl
 have rR:=h3.step r6 jP;refine wp_seq (x:=.cond (.tmp 17) .skip (.exit 0)) (y:=cs (cs (ci (ci (cs (cf mN)))))) (O5 jP.ai rfl ?_);by_cases hik:i<p+1
 ·rw[show decide ((i:Int)<((p+1:Nat):Int))=true from decide_eq_true (by omega)];refine wp_skip ?_;have akS:jE x deep Hs E c Wg rv dv fv (jJ Hs Wg ((p+1:Nat):Int) i) [] E4 V4 a4:=jP.Ix (Env.Le.refl E4) rfl rfl (jP.ai.sub (dY (by unfold jJ dA;simp only[seval];simp[a_,Wk.refl]) rfl));exact ang hx hA Av alX ⟨akS,rR.role,rR.F9,rR.CI⟩ (by omega) rfl λE5 V5 a5 h5=>⟨p+1-(i+1),by omega,E5,i+1,rfl,by omega,h5⟩
 have dD:i=p+1:=by omega
 subst dD;rw[show decide ((((p+1:Nat):Int))<((p+1:Nat):Int))=false by simp];refine wp_exit ?_;refine wp_seq (x:=cf (cs mN)) (y:=cs (cs mN)) ?_;refine IL (K:=λs'=>look s'.T 22=some (.fn (.func 100) [] [.val (pW Wg 0),.op (Hs.length+3) 0])/\s'.Sub ⟨[(5,.op (Hs.length+3) 0),(4,.op (Hs.length+2) 0)],Hs++(dA x deep c++[])⟩) 1 1 rfl (by kernel_rfl) jP.ai ?_ λE5 V5 a5 s5 gB kE hK=> ?_
 ·unfold jJ dA;(try simp only[seval,Ue,UH,Um,TU]);exact dY (by simp only[seval];simp[a_,Wk.refl]) rfl
 obtain⟨Nj,mb⟩:=hK;have b_:=jP.step gB (kE.sub mb);have EB:V5.role=.fork c Wg (po x deep (p+1)):=gB.role.trans rR.role;have wG:E5.fr c=some th:=by rw[gB.le.fr];exact rR.F9
 have CJ:E5.fr Wg=some (wgBlock SA (((p+1:Nat):Int)* 4294967296) 0):=by rw[gB.le.fr];exact rR.CI
 obtain⟨c1,c2,c3⟩:=b_.ai.bw.fr c _ wG;obtain⟨v1,v2,v3⟩:=b_.ai.bw.fr Wg _ CJ;have e22:a5.eval (.tmp 22)=.func (.func 100) #[] #[pW Wg 0,fv]:=by
  obtain⟨fa,ca,q1,q2,q3⟩:=Qw (kE.tok 22 _ Nj).2;rw[FW q2]at q1;refine q1.trans ?_;have f_:ca.size=2:=q3.1;have k0:=uV (q3.2 0 _ rfl);have k1:=CA (q3.2 1 _ rfl);rw[<- b_.ef]at k1;congr 1;refine Array.ext f_ λj h1 h2=> ?_;have hj:j=0\/j=1:=by omega
  rw[SH,SJ (by omega)]at k0 k1;rcases hj with rfl|rfl
  ·exact k0
  ·exact k1
 have hfc:V5.ab (E5.blk (Hs.length+3)) 0=some (.chan (some c)):=by
  have bB:=b_.df;rw[b_.ef]at bB;generalize hp:(Value.pointer (some ⟨E5.blk (Hs.length+3),0,none⟩))=pv at bB;cases bB with
  |rp b o f h1 h2=>
   cases hp;have:=h1 0 (by simp);rw[b_.ai.bw.I]at this;rw[UJ]at this;rw[this,uV (h2 0 _ rfl)]
 refine O8 rfl rfl ?_;refine⟨rfl,.tmp 22,100,#[],_,rfl,e22,b_.deaf,.inr ⟨c,Wg,_,EB,b_.ne,c1,?_,c2,v2,?_,?_⟩⟩
 ·rw[v1,OI]
 ·have:=ahp Wg (E5.blk (Hs.length+3)) c (Im:=V5.ab) hfc;rw[b_.ef];simpa[pW]using this
 let V6:View:={V5 with own:=λb=>if b=c\/b=Wg then none else V5.own b,role:=.recv c Wg (po x deep (p+1))};let f6:Nat->Option Obj:=λb=>if b=c\/b=Wg then none else E5.fr b;have JF:Conc (E5.frame f6) V6 (Hs++(dA x deep c++[])):=by
  refine b_.ai.bw.zt (V':=V6) _ rfl (λb z k w hk kT hz=> ?_) (λg hg=>by cases hg) (λg hg=>by cases hg) (λhm=>by rw[b_.main]at hm;cases hm) (λb y hb=> ?_)
  ·have n1:b≠c:=b_.ai.bw.En wG hk kT;have n2:b≠Wg:=b_.ai.bw.En CJ hk kT;show (if b=c\/b=Wg then none else V5.own b)=some z;rw[if_neg (λe=>e.elim n1 n2)];exact hz
  ·by_cases AC:b=c\/b=Wg
   ·simp only[f6,if_pos AC]at hb;cases hb
   ·simp only[f6,if_neg AC]at hb;obtain⟨q1,q2,q3⟩:=b_.ai.bw.fr b y hb;refine⟨?_,q2,q3⟩;show (if b=c\/b=Wg then none else V5.own b)=some y;rw[if_neg AC];exact q1
 have oT:jE x deep Hs E c Wg rv dv fv [(5,.op (Hs.length+3) 0),(4,.op (Hs.length+2) 0)] [] (E5.frame f6) V6 (a5.put none undef):=by
  refine⟨⟨JF,b_.ai.tok.frame _,b_.ai.size⟩,b_.lo.trans (Env.HF E5 f6),b_.main,b_.defers,b_.deaf,b_.er,b_.ed,b_.ef,b_.dr.frame f6,b_.dd.frame f6,b_.df.frame f6,λb y e=> ?_,b_.ne⟩;obtain⟨q1,q2,q3⟩:=b_.fr b y e;refine⟨?_,q2,q3⟩;show (if b=c\/b=Wg then none else E5.fr b)=some y;rw[if_neg (λe=>e.elim q2 q3)];exact q1
 show WP true SA none (.seq (cf (cs (cs mN))) (cs (cs (cs mN)))) Q (a5.put none undef) V6;refine wp_seq ?_;refine oT.to (jy Hs) (iC Hs Kn.zero) ?_ λE7 V7 a7 oX C7=> ?_
 ·show aQ true SA none 35 (cf (cs (cs mN))) _ _;unfold jy dA iC;refine aj ?_;exact dY (by simp only[seval];simp[a_,Wk.refl]) rfl
 refine wp_block (id:=2) (c:=.loop abv) ?_;have cK:Fu x deep (p+1) Hs E c Wg rv dv fv [] Kn.zero (jy Hs) [] E7 V7 a7:=⟨by rw[SO];exact C7,by rw[oX.role,arK],.nil,D7,WQ,λj hj=>by cases hj⟩;refine wp_loop (λm a' V'=>∃E' js D,m=p+1-js.length/\Fu x deep (p+1) Hs E c Wg rv dv fv js D (jy Hs) [] E' V' a') _ ⟨E7,[],Kn.zero,rfl,cK⟩ λm a8 V8 hI=> ?_;obtain⟨E8,js,D,rfl,h8⟩:=hI;have hlen:∀js:List Nat,js.Nodup->(∀j∈js,j<p+1)->js.length<=p+1:=λjs hn hl=>by
  have:=hn.length_le_of_subset (l₂:=S0 (p+1)) λj hj=>by simpa using hl j hj
  simpa using this
 refine anh hx hA (by omega) Av bC h8 (λj D' E9 V9 a9 hj h9=> ?_) λE9 V9 a9 G akJ Nt JR JG On yg eQ=> ?_
 ·have h1:=hlen _ h9.nodup h9.lt;simp only[SL,TG]at h1;exact⟨p+1-(js++[j]).length,by simp;omega,E9,js++[j],D',rfl,h9⟩
 ·have Me:js.Perm (S0 (p+1)):=by
   refine(List.perm_ext_iff_of_nodup h8.nodup X0).2 λk=> ?_;rw[TW];exact⟨h8.lt k,eQ k⟩
  exact hQ js D E9 V9 a9 G Me h8.abn h8.kn akJ Nt JR JG On yg
end
theorem ajs{x:ak}{deep:Int}{p:Nat}{H:List aa}{k kp:AV->List aa->Prop}(hx:x.Ok)(hA:xQ x)(hp:x.am=p)(hm:H[0]?=some .main)(hk:∀js D L,js.Perm (S0 (p+1))->oB x deep js D->bM D->L.length=5->k (.agg (D.l (H.length+5))) (H++(L++[setH D.aM]))):bc true SA 77 H [x.av,iv deep] k kp:=by
 intro E V vs hc hd;have hEm:E.main=true:=hc.obj 0 _ hm;obtain⟨jq,vg⟩:=hc.top hEm;have hn:E.n=H.length:=hc.n;refine P6 (by simp) F.f77 rfl ?_;have tJ:At (E.fy false) V ⟨[(0,x.av),(1,iv deep)],H.map strip⟩ {tmps:=vs++TP (XP.ntmps-vs.size) undef,defers:=[]} 35:=by
  have:=Cq (nt:=35) hc hd (by simp);exact⟨hc.ahC,this.tok.fy false,this.size⟩
 have hlen:(H.map strip).length=H.length:=Ta _;have L9:bF (H.map strip):=tJ.bw.aq
 suffices pS:∀Hs,H.map strip=Hs->WP true SA none vR (Ends SA XP (gW E V k kp)) {tmps:=vs++TP (XP.ntmps-vs.size) undef,defers:=[]} V from pS _ rfl
 intro Hs bC;rw[bC]at tJ hlen L9;have Sz:({tmps:=vs++TP (XP.ntmps-vs.size) undef,defers:=[]}:Act).defers=[]:=rfl;generalize({tmps:=vs++TP (XP.ntmps-vs.size) undef,defers:=[]}:Act)=a0 at tJ Sz;have bS:x.l=[iv x.first,iv x.hours,iv x.am,dt x.seen,aT x.pieces,aT x.aC]:=rfl;refine wp_seq (x:=cf vR) (y:=cs vR) ?_;refine z_ ⟨[(4,.op (Hs.length+2) 0),(3,.op (Hs.length+1) 0),(2,.op Hs.length 0)],Hs++[.cells x.l 76,.cells [iv deep] 3,.cells jB 88]⟩ tJ ?_ λE2 V2 a2 cL ve=> ?_
 ·show aQ true SA none 35 (cf vR) _ _;simp only[ak.av];refine aj ?_;exact dY (by simp only[seval];simp[a_,Wk.refl]) rfl
 obtain⟨ti,xb⟩:∃i,SA.info? 88=some i:=Option.isSome_iff_exists.1 (by kernel_rfl);refine wp_seq (x:=cf (cs vR)) (y:=cs (cs vR)) (aeB rfl rfl (ao4 rfl (d:=.both) (el:=88) (by kernel_rfl) xb λc wR=> ?_));let f3:Nat->Option Obj:=λb=>if b=c then some th else E2.fr b;have qH:At (E2.frame f3) (V2.upd c th) ⟨[(11,.val (.chan (some c))),(4,.op (Hs.length+2) 0),(3,.op (Hs.length+1) 0),(2,.op Hs.length 0)],Hs++[.cells x.l 76,.cells [iv deep] 3,.cells jB 88]⟩ (a2.put (some 11) (.chan (some c))) 35:=
  ⟨ve.bw.akc wR th,(ve.tok.frame _).put (by rw[ve.size];omega) (.val _),(eo a2 (some 11) _).trans ve.size⟩
 refine O9 ⟨[(5,.op (Hs.length+3) 0),(4,.op (Hs.length+2) 0),(3,.op (Hs.length+1) 0),(2,.op Hs.length 0)],Hs++[.cells x.l 76,.cells [iv deep] 3,.cells jB 88,.cells [.val (.chan (some c))] 139]⟩ rfl (by kernel_rfl) qH ?_ λE4 V4 a4 r6 rW=> ?_
 ·(try simp only[seval,apk,atP,anq]);exact dY (by simp only[seval];simp[a_,Wk.refl]) rfl
 refine wp_seq (x:=cf (cs (cs vR))) (y:=mN) ?_;refine z_ ⟨[(6,.op (Hs.length+4) 0),(5,.op (Hs.length+3) 0),(4,.op (Hs.length+2) 0),(3,.op (Hs.length+1) 0),(2,.op Hs.length 0)],Hs++[.cells x.l 76,.cells [iv deep] 3,.cells jB 88,.cells [.val (.chan (some c))] 139,.cells [.val (.int .u64 0),.val (.int .u32 0)] 147]⟩ rW ?_ λE5 V5 a5 gB kE=> ?_
 ·show aQ true SA none 35 (cf (cs (cs vR))) _ _;refine aj ?_;exact dY (by simp only[seval];simp[a_,Wk.refl]) rfl
 obtain⟨wcs,MK,hwo,yY,C_⟩:=kE.bw.akd (id:=Hs.length+4) (aW _ _ 4);have amK:=QA (l:=[.int .u64 0,.int .u32 0]) MK;subst amK;rw[dL]at C_;simp only[UK,T9]at C_;have QR:=kE.atq (t:=6) (id:=Hs.length+4) (off:=0) rfl;have RI:E5.fr=f3:=gB.le.fr.trans r6.le.fr;have wG:E5.fr c=some th:=by rw[RI];simp[f3]
 have aG:c≠E5.blk (Hs.length+4):=λe=>kE.bw.En wG (aW Hs _ 4) rfl e.symm;have RJ:∀b y,E.fr b=some y->E5.fr b=some y/\b≠c/\b≠E5.blk (Hs.length+4):=λb y hb=>by
  have h2:E2.fr b=some y:=by rw[cL.le.fr];exact hb
  have AC:b≠c:=λe=>by subst e;have:=(ve.bw.fr b y h2).1;rw[wR.1]at this;cases this
  have h5:E5.fr b=some y:=by rw[RI];simp[f3,AC,h2]
  exact⟨h5,AC,λe=>kE.bw.En h5 (aW Hs _ 4) rfl e.symm⟩
 generalize Ax:E5.blk (Hs.length+4)=Wg at hwo yY C_ QR aG RJ;let f6:Nat->Option Obj:=λb'=>if b'=Wg then some (wgBlock SA 0 0)else E5.fr b';have aai:Conc (E5.frame f6) V5 (Hs++[.cells x.l 76,.cells [iv deep] 3,.cells jB 88,.cells [.val (.chan (some c))] 139,.gone]):=by
  have:(λb'=>if b'=Wg then some (Obj.cells #[.int .u64 0,.int .u32 0] 147 (0,0))else E5.fr b')=f6:=by
   funext b';simp only[f6,wgBlock,wgT]
  rw[<- this];exact C_
 have C2:At (E5.frame f6) V5 ⟨[(6,.val (pW Wg 0)),(5,.op (Hs.length+3) 0),(4,.op (Hs.length+2) 0),(3,.op (Hs.length+1) 0),(2,.op Hs.length 0)],Hs++[.cells x.l 76,.cells [iv deep] 3,.cells jB 88,.cells [.val (.chan (some c))] 139,.gone]⟩ a5 35:=by
  refine⟨aai,λt av e=> ?_,kE.size⟩;by_cases ht:t=6
  ·subst ht;cases e;refine⟨by rw[kE.size];omega,?_⟩;have:a5.tmps.getD 6 undef=pW Wg 0:=QR;rw[this];exact .val _
  ·refine(kE.tok.frame f6) t av ?_;simp only[look]at e⊢;rw[if_neg (Ne.symm ht)]at e⊢;exact e
 clear C_ aai;have lo6:E.Lo (E5.frame f6):=((((E.anX false).trans cL.le.lo).trans (Env.HF E2 f3)).trans (r6.le.lo.trans gB.le.lo)).trans (Env.HF E5 f6);have NC:(E5.frame f6).main=false:=gB.le.main.trans (r6.le.main.trans cL.le.main);have ahz:a5.defers=[]:=gB.defers.trans (r6.defers.trans ((put_defers a2 _ _).trans (cL.defers.trans Sz)));have ro6:V5.role=.plain:=gB.role.trans (r6.role.trans (cL.role.trans jq));have de6:V5.deaf=0:=gB.deaf.trans (r6.deaf.trans (cL.deaf.trans vg));have KF:(E5.frame f6).fr c=some th:=by show f6 c=_;simp only[f6,if_neg aG];exact wG
 have KG:(E5.frame f6).fr Wg=some (wgBlock SA 0 0):=by show f6 Wg=_;simp[f6]
 have RL:∀b y,E.fr b=some y->(E5.frame f6).fr b=some y/\b≠c/\b≠Wg:=λb y hb=>by
  obtain⟨q1,q2,q3⟩:=RJ b y hb;refine⟨?_,q2,q3⟩;show f6 b=_;simp only[f6,if_neg q3];exact q1
 generalize E5.frame f6=E6 at C2 lo6 NC KF KG RL;obtain⟨V7,g7,o7,r7,d7,xf,FS,Qt⟩:=C2.bw.If (id:=Hs.length) (aW _ _ 0) 6 (by simp[bS]);rw[show Hs.length=Hs.length+0 from rfl,dL]at FS;simp only[T9]at FS;have ad8:=C2.tok.mono xf;generalize hE7:({E6 with I:=V7.ab}:Env)=E7 at xf FS Qt ad8;obtain⟨V8,g8,o8,r8,d8,vS,FT,Qu⟩:=FS.If (id:=Hs.length+1) (aW _ _ 1) 1 (by simp);rw[dL]at FT;simp only[UK,T9]at FT;have ad9:=ad8.mono vS;generalize hE8:({E7 with I:=V8.ab}:Env)=E8 at vS FT Qu ad9;obtain⟨V9,g9,o9,r9,d9,vT,x8,JJ⟩:=FT.If (id:=Hs.length+3) (aW _ _ 3) 1 (by simp);rw[dL]at x8;simp only[UK,T9]at x8;have aea:=ad9.mono vT;generalize hE9:({E8 with I:=V9.ab}:Env)=E9 at vT x8 JJ aea;refine WP.ghost g7 (WP.ghost g8 (WP.ghost g9 ?_));have Nt:E.Lo E9:=lo6.trans ((xf.trans vS).trans vT).lo;have On:V9.role=.plain:=r9.trans (r8.trans (r7.trans ro6));have JG:V9.deaf=0:=d9.trans (d8.trans (d7.trans de6));have yg:E9.fr=E6.fr:=vT.fr.trans (vS.fr.trans xf.fr);have n6:E6.n=Hs.length+5:=by rw[C2.bw.n];simp
 have b7:∀k,k<Hs.length+5->E9.blk k=E6.blk k/\E9.blk k=E7.blk k/\E9.blk k=E8.blk k:=λk hk=>by
  have n7:=xf.n;have n8:=vS.n;have q7:=xf.blk k (by omega);have q8:=vS.blk k (by omega);have q9:=vT.blk k (by omega);exact⟨by rw[q9,q8,q7],by rw[q9,q8],q9⟩
 obtain⟨c1,c2,c3⟩:=x8.fr c th (by rw[yg];exact KF);obtain⟨v1,v2,v3⟩:=x8.fr Wg _ (by rw[yg];exact KG);refine atB (c:=c) (Wg:=Wg) rfl On aG c1 (by rw[v1];simp) v2 ?_;let Jb:View:={V9 with role:=.fork c Wg []};have ahq:Conc (E9.frame E9.fr) Jb (Hs++(dA x deep c++[])):=by
  refine x8.zt (V':=Jb) _ rfl (λ_ _ _ _ _ _ h=>h) (λg hg=> ?_) (λg hg=> ?_) (λhm=>by rw[vT.main,vS.main,xf.main,NC]at hm;cases hm) x8.fr
  ·cases hg;exact⟨by show V9.own Wg≠none;rw[v1];simp,v2,v3⟩
  ·cases hg;exact⟨by show V9.own c≠none;rw[c1];simp,c2,c3⟩
 have dr9:ap E9 (.rp x.l) (.pointer (some ⟨E9.blk Hs.length,0,none⟩)):=by
  have h7:=(Qt.mono vS).mono vT;rw[<- (b7 Hs.length (by omega)).1]at h7;rwa [SV (by simp[bS])]at h7
 have dd9:ap E9 (.rp [iv deep]) (.pointer (some ⟨E9.blk (Hs.length+1),0,none⟩)):=by
  have h8:=Qu.mono vT;rw[<- (b7 (Hs.length+1) (by omega)).2.1]at h8;exact h8
 have JR:ap E9 (.rp [.val (.chan (some c))]) (.pointer (some ⟨E9.blk (Hs.length+3),0,none⟩)):=by
  rw[<- (b7 (Hs.length+3) (by omega)).2.2]at JJ;exact JJ
 have L4:jE x deep Hs E c Wg (.pointer (some ⟨E9.blk Hs.length,0,none⟩)) (.pointer (some ⟨E9.blk (Hs.length+1),0,none⟩)) (.pointer (some ⟨E9.blk (Hs.length+3),0,none⟩)) [(6,.val (pW Wg 0)),(5,.op (Hs.length+3) 0),(4,.op (Hs.length+2) 0),(3,.op (Hs.length+1) 0),(2,.op Hs.length 0)] [] E9 Jb a5:=
  ⟨⟨ahq,aea,C2.size⟩,Nt,vT.main.trans (vS.main.trans (xf.main.trans NC)),ahz,JG,rfl,rfl,rfl,dr9,dd9,JR,λb y hb=>by rw[yg];exact RL b y hb,aG⟩
 refine ani hx hA hp (by omega) L9 ⟨L4,rfl,by rw[yg];exact KF,by rw[yg];exact KG⟩ λjs D E11 V11 a11 G Me jQ cr aab anW ahy ahv aqK akb=> ?_;subst bC;have b9:=Kn.len cr (H.length+5);let L5:List aa:=[.part 6 x.l 76,.part 1 [iv deep] 3,.cells (D.l (H.length+5)) 88,.part 1 [.val (.chan (some c))] 139,.gone];rw[hlen]at aab;refine⟨ahy,aqI (P:=SA) (rs:=[.cell 4 88]) (H:=H) (L:=L5++[setH D.aM]) (G:=G) (T:=[(4,.op (H.length+2) 0)]) (av:=.agg (D.l (H.length+5))) rfl aab anW hc (aqK.trans jq.symm) (ahv.trans vg.symm) akb ?_ rfl ?_ ?_ (hk js D L5 Me jQ cr rfl)⟩
 ·have hg:(H.map strip++(L5++[setH D.aM]++G))[H.length+2]?=some (.cells (D.l (H.length+5)) 88):=by
   have:=aW (H.map strip) (L5++[setH D.aM]++G) 2;rw[hlen]at this;exact this
  have aE:Uh 28 (D.l (H.length+5))=D.l (H.length+5):=SV (by omega);generalize hLG:H.map strip++(L5++[setH D.aM]++G)=LG at hg;try simp only[seval,ik,vY,hg,b9,aE,aa.cellsOf]
 ·have hl:H.length=(H.map strip).length:=hlen.symm;intro y hy;have alD:(H.map strip++(L5++[setH D.aM])).length=H.length+6:=by simp[L5]
  rw[alD];rcases SS.1 hy with h|h
  ·exact(L9 y h).mono (by omega)
  ·simp only[L5,SK,SS,SZ,or_false]at h;rcases h with(rfl|rfl|rfl|rfl|rfl)|rfl
   ·exactλa ha=>HJ x _ a ha
   ·intro a ha;simp at ha;subst ha;exact .val _
   ·exact y9 (by omega)
   ·intro a ha;simp at ha;subst ha;exact .val _
   ·trivial
   ·trivial
 ·refine .agg λa ha=> ?_;exact y9 (by simp[L5]) a ha
namespace Tk
theorem aaA{x:ak}{bm:Nat}(h0:0<=x.first)(h90:x.first<=90)(hp:0<=x.am/\x.am<=3):∀(d:Nat)(pre:List Int),pre.length+d<=4->pre.head?=some x.first->(∀a∈pre,x.first<=a/\a<=x.first+3* (pre.length-1:Nat))->∀h∈nf x bm d pre,h.length=4/\h.head?=some x.first/\∀a∈h,x.first<=a/\a<=x.first+9
 |0,pre,hl,hh,ha,h,hm=>by
  unfold nf at hm;split at hm
  ·rw[S9]at hm;subst hm;have aG:pre≠[]:=λe=>(by rw[e]at hh;cases hh);have cS:0<pre.length:=VW.2 aG;have vw:pre.getLastD 0∈pre:=by
    rw[Vv,XR aG];exact Zw aG
   refine⟨by simp[cO];omega,by rw[cO,WS,hh];rfl,λa hm=> ?_⟩;have Do:a∈pre:=by
    rcases SS.1 hm with h|h
    ·exact h
    ·rw[(XB.1 h).2];exact vw
   have:=ha a Do;omega
  ·cases hm
 |d+1,pre,hl,hh,ha,h,hm=>by
  unfold nf at hm;split at hm
  ·obtain⟨n,hn,hm⟩:=S5.1 hm;have iY:n<x.am.toNat+1:=(by simpa using hn);split at hm
   ·cases hm
   ·have aG:pre≠[]:=λe=>(by rw[e]at hh;cases hh);have cS:0<pre.length:=VW.2 aG;have vw:pre.getLastD 0∈pre:=by
     rw[Vv,XR aG];exact Zw aG
    refine aaA h0 h90 hp d _ (by simp;omega) (by rw[WS,hh];rfl) (λa Do=> ?_) h hm;rw[SL,TG];rcases SS.1 Do with h'|h'
    ·have:=ha a h';omega
    ·rw[S9]at h';subst h';have:=ha _ vw;omega
  ·cases hm
theorem aav{x:ak}{bm:Nat}(hx:x.Ok){h:List Int}(hm:h∈kU x bm):mX h:=by
 have hf:=hx.first;have hh:=hx.hours;have hp:=hx.am;obtain⟨h1,h2,h3⟩:=aaA (bm:=bm) hf.1 hf.2 ⟨by omega,hp.2⟩ x.hours.toNat [x.first] (by simp;omega) rfl (λa ha=>by rw[S9]at ha;subst ha;simp) h hm;refine⟨h1,λa ha=>by have:=h3 a ha;omega,λa ha=>by have:=h3 a ha;omega,?_⟩
 match h,h1,h2,h3 with
 |[a,b,c,d],_,h2,h3=>
  have ha:a=x.first:=by simpa using h2
  have:=h3 d (by simp);simp;omega
theorem acn:∀{qs:List Nat}{u:Nat}{t ns:List Nat},ns∈k_ qs u t->∃l,ns=t++l/\l.length=qs.length/\∀(i n q:Nat),l[i]?=some n->qs[i]?=some q->n<9/\q.testBit n=true
 |[],u,t,ns,h=>by
  simp only[k_,S9]at h;exact⟨[],by simp[h],rfl,λi n q h1=>by cases h1⟩
 |q::qs,u,t,ns,h=>by
  simp only[k_,S5]at h;obtain⟨n,hn,h⟩:=h;split at h
  ·cases h
  ·rename_i hc;obtain⟨l,h1,h2,h3⟩:=acn h;refine⟨n::l,by rw[h1];simp,by simp[h2],λi m q' h4 h5=> ?_⟩
   match i with
   |0=>
    cases h4;cases h5;refine⟨by simpa using hn,?_⟩;simp at hc;exact hc.2
   |i+1=>exact h3 i m q' h4 h5
theorem acz{k:Nat}{ns:List Nat}:∀{qs:List Nat}{u:Nat}{t os:List Nat},os∈mQ k ns qs u t->∃l,os=t++l/\l.length=qs.length/\∀n∈l,n<k
 |[],u,t,os,h=>by
  simp only[mQ,S9]at h;exact⟨[],by simp[h],rfl,λn h1=>by cases h1⟩
 |q::qs,u,t,os,h=>by
  simp only[mQ,S5]at h;obtain⟨n,hn,h⟩:=h;split at h
  ·cases h
  ·obtain⟨l,h1,h2,h3⟩:=acz h;refine⟨n::l,by rw[h1];simp,by simp[h2],λm hm=> ?_⟩;rcases SK.1 hm with rfl|hm
   ·simpa using hn
   ·exact h3 m hm
theorem OS:∀{h:List Int}{i:Nat}{n a:Int},h.head?=some a->a<=n->n<h.getLastD 0->0<=fG i h n
 |[],i,n,a,h1,_,_=>by cases h1
 |[b],i,n,a,h1,h2,h3=>by
  simp at h1 h3;omega
 |b::c::l,i,n,a,h1,h2,h3=>by
  have:b=a:=by simpa using h1
  subst this;unfold fG;split
  ·omega
  ·rename_i hc;exact OS (a:=c) rfl (by omega) (by simpa[Vv]using h3)
theorem as3{x:ak}{h:List Int}{ns os:List Nat}(hx:x.Ok)(hh:mX h)(hn:ns∈gg x h)(ho:os∈iE x h ns):jF x (dE h ns os):=by
 obtain⟨l,e1,e2,e3⟩:=acn hn;simp only[UN]at e1;subst e1;obtain⟨m,g1,g2,g3⟩:=acz ho;simp only[UN]at g1;subst g1;rw[Ta]at e2 g2;have h4:=hh.len;have GZ:=hx.ey;have pY:=hx.dp;have DT:(dE h ns os).take 4=h:=by
  unfold dE;rw[SC,TB (by omega),SV (by omega)]
 have dz:(lP 4 ns).length=4:=Bq (by omega);have hg:∀p,p<ns.length->(dE h ns os)[4+p]?=(ns[p]?).map λn:Nat=>(n:Int):=λp hp=>by
  unfold dE;rw[SC,S_ (by omega),SY (by omega),h4,TZ];unfold lP;rw[SY (by simpa using hp),To]
 refine⟨by simp[dE,h4,dz,Bq (k:=3) (l:=os) (by omega)],by rw[DT];exact hh,λp hp=> ?_,λs hs=> ?_⟩
 ·obtain⟨n,Dt⟩:=bK (xs:=ns) (i:=p) (by omega);obtain⟨y,hy⟩:=bK hp;obtain⟨q1,q2⟩:=e3 p n (cm h y) Dt (by rw[To,hy];rfl);refine⟨n,by rw[hg p (by omega),Dt];rfl,q1,?_⟩;rw[DT];unfold cm at q2;rw[Cs]at q2;simp only[Tg,lV,decide_eq_true_eq]at q2;obtain⟨a,b,c,d,rfl,_⟩:=hh.out;have e0:(dE [a,b,c,d] ns os).getD 0 0=a:=rfl;rw[e0];have:=q2.2.1.1;simp at this;exact OS (a:=a) rfl (by omega) (by simp;omega)
 ·obtain⟨o,Ma⟩:=bK (xs:=os) (i:=s) (by omega);refine⟨o,?_,by have:=g3 o (S8 Ma);omega⟩;unfold dE;rw[S_ (by simp[h4,dz]),show (h++lP 4 ns).length=8 by simp[h4,dz],TZ];unfold lP;rw[SY (by have:=eX Ma;simpa using this),To,Ma];rfl
end Tk
theorem ES{x:ak}(hx:x.Ok):xQ x:=λbm _ h hm=>by
 have hh:=aav hx hm;refine⟨hh,λns iL a ha=> ?_⟩;obtain⟨os,h1,rfl⟩:=Tm.1 ha;exact as3 hx hh iL h1
open Go.Conc
section
variable {lv:Bool}{P:SI}{s:AS}{ms:List Nat}{bs:List U3}{nt:Nat}
theorem ajY{f:TS}{fn:YD}{c0 c1 c2:Ub}{rs:List UT}{H:List aa}{args:List AV}{k kp:AV->List aa->Prop}(hf:P.funcs[f]?=some fn)(hb:fn.body=some (.seq c0 (.seq c1 c2)))(hr:fn.results=rs.toArray)(hn:fn.ntmps=nt)(cQ:args.length<=nt)
  (h:bF H->(∀a∈args,Lt H.length a)->aQ lv P none nt c0 ⟨bk 0 args,H⟩ λe s0=>e=.normal/\BR lv P nt c1 s0 [] (λe s' nN=>e=.normal/\∃c,nN=[c]/\∀bs,kM lv P nt bs c2 s' [] (zU lv P rs H.length c k kp))):bc lv P f H args k kp:=by
 intro E V vs hc hd;have hlt:∀a∈args,Lt H.length a:=λa ha=>by
  obtain⟨i,hi⟩:=qe ha;rw[<- hc.n];exact(hd.2 i a hi).lt
 have ai:=Cq (nt:=nt) hc hd cQ;refine ahb (by simp) hf hb ?_;rw[hn];refine wp_seq (h hc.aq hlt E V _ _ ai λae e E0 V0 a0 s0 vu tJ he0 hΦ0=> ?_);obtain⟨rfl,yX⟩:=hΦ0;cases e<;>first
  |exact he0.elim
  |skip
 have alb:a0.defers=[]:=vu.defers;refine wp_seq (yX E0 V0 a0 _ tJ (by rw[alb];trivial) λae e E1 V1 a1 s1 ds1 alA wM c_ Dc hΦ1=> ?_);obtain⟨rfl,c,rfl,hw⟩:=hΦ1;have iK:=vu.d.trans alA;cases e<;>first
  |exact Dc.elim
  |skip
 obtain⟨d,jn,bt⟩:∃d,a1.defers=[d]/\zM E1 c d:=by
  match jn:a1.defers,c_ with
  |[d],c_=>exact⟨d,rfl,c_.1⟩
  |[],c_=>exact c_.elim
  |_::_::_,c_=>exact c_.2.elim
 refine hw [d] E1 V1 a1 _ wM ⟨by simp[jn],by simp⟩ λae e E' V' a' s' cH hk aV fZ he hΦ=> ?_;have hle:E.Le E':=iK.le.trans hk.le;have fin:∀(md:Vg)(m:Option AV)(H':List aa),(md matches .run)=false->iT cH s'.H=some H'->Pm E' m md->ry lv P c H' m (λH'=>ao (ik P ⟨s'.T,H'⟩ rs) λl=>cJ H.length H' (jc l) k) (λH'=>∀pv,m=some pv->cJ H.length H' pv kp)->uL lv P fn (gW E V k kp) a'.defers md a'.tmps V':=by
  intro md m H' qQ hg aaH hD;refine aeq qQ cH _ H' E' V' _ hg aV.bw fZ λV2 r1 r2 cq=> ?_;have ak8:=bt.mono hk.le;refine⟨qQ,.inr ⟨?_,?_⟩⟩
  ·obtain⟨f,first,cW,fa,ca,vs,h1,rfl,h3,h4,h5⟩:=bt;exact⟨_,_,rfl⟩
  ·refine(hD E' V2 d md cq ak8 aaH).mono (λnx aU hx=> ?_) λ_ _ h=>h;obtain⟨g,args,rfl,CR⟩:=hx;refine⟨g,args,rfl,CR.mono λou V3 hx=> ?_⟩;obtain⟨E3,H3,q1,q2,q3,q4,q5|q5⟩:=hx
   ·obtain⟨rfl,q5⟩:=q5;exact acX (s':=⟨s'.T,H3⟩) (a':=a') hr ⟨q4,aV.tok.mono q1,aV.size⟩ (hle.trans q1) hc.n (q2.trans (r1.trans (hk.role.trans iK.role))) (q3.trans (r2.trans (hk.deaf.trans iK.deaf))) q5
   ·obtain⟨rfl,vA,q5⟩:=q5;cases m with
    |none=>cases vA
    |some pv=>
     obtain⟨v,rfl,mI⟩:=aaH;obtain⟨b,bT,uG,t1,t2,t3,t4⟩:=x_ (q5 pv rfl) q4 (mI.mono q1) (hle.trans q1) hc.n;exact⟨b,v,bT,uG,rfl,t1,q2.trans (r1.trans (hk.role.trans iK.role)),q3.trans (r2.trans (hk.deaf.trans iK.deaf)),t2,t3,t4⟩
 have ajP:zU lv P rs H.length c k kp .ret s' cH->uL lv P fn (gW E V k kp) a'.defers .returning a'.tmps V':=λhΦ=>by
  obtain⟨H',hg,hΦ⟩:=ao.out hΦ;refine fin .returning none H' rfl hg rfl λE2 V2 d2 NE c1 c2 c3=> ?_;refine(hΦ E2 V2 d2 NE c1 c2 c3).mono (λnx aU hx=> ?_) λ_ _ h=>h;obtain⟨g,args,rfl,CR⟩:=hx;refine⟨g,args,rfl,CR.mono λou V3 hx=> ?_⟩;obtain⟨E3,H3,q1,q2,q3,q4,q5|q5⟩:=hx
  ·exact⟨E3,H3,q1,q2,q3,q4,.inl q5⟩
  ·exact q5.2.2.elim
 cases ae<;>cases e<;>first
  |exact he.elim
  |exact ajP hΦ
  |exact hΦ.elim
  |skip
 rename_i pv ch;obtain⟨v,ff,ak9⟩:∃v,ch=[{v,recovered:=false}]/\ap E' pv v:=he;subst ff;obtain⟨H',hg,hΦ⟩:=ao.out hΦ;refine fin _ (some pv) H' rfl hg ⟨v,rfl,ak9⟩ λE2 V2 d2 NE c1 c2 c3=> ?_;refine(hΦ E2 V2 d2 NE c1 c2 c3).mono (λnx aU hx=> ?_) λ_ _ h=>h;obtain⟨g,args,rfl,CR⟩:=hx;refine⟨g,args,rfl,CR.mono λou V3 hx=> ?_⟩;obtain⟨E3,H3,q1,q2,q3,q4,q5|q5⟩:=hx
 ·exact⟨E3,H3,q1,q2,q3,q4,.inl q5⟩
 ·exact⟨E3,H3,q1,q2,q3,q4,.inr ⟨q5.1,q5.2.1,λpv' e=>by cases e;exact q5.2.2⟩⟩
end
open Go.Proofs Go.Gg.Tk
namespace Tk
def wB (x:ak):Bool:=(S0 (x.am.toNat+1)).any λbm=>(kU x bm).any λh=> !(jA x 0 h).isEmpty
end Tk
def vW:AV:=.db 136 (.agg [])
section
variable {lv:Bool}{H:List aa}{kr kp:List aa->Prop}
theorem ajB{r:Nat}(h:∀L,kr (H++L)):ry lv SA (.fn (.func 95) [] [.op r 0],[]) H none kr kp:=by
 refine Qr (nt:=9) (by kernel_rfl) F.f95 rfl rfl rfl rfl rfl rfl rfl rfl (by kernel_rfl) (by simp) ?_;simp only[bk,SU,UN,Vu];(try simp only[seval,F.M6]);refine ew (a:=[]) rfl ⟨rfl,by decide,by simp,?_⟩;refine aj ?_;refine aD ?_;refine agw ?_;exact .inl (h _)
theorem ajC{r:Nat}{a:AV}(hr:H[r]?=some (.cells [a] 4))(h:∀L,kr (H.set r (.cells [bv true] 4)++L)):ry lv SA (.fn (.func 95) [] [.op r 0],[]) H (some vW) kr kp:=by
 refine Qr (nt:=9) (by kernel_rfl) F.f95 rfl rfl rfl rfl rfl rfl rfl rfl (by kernel_rfl) (by simp) ?_;simp only[bk,SU,UN,S7,vW];(try simp only[seval,F.M6]);have t_:=eX hr;have yP:∀L:List aa,(H++L)[r]?=some (.cells [a] 4):=λL=>fV hr;refine aj ?_;refine aD ?_;refine ah ?_;simp only[seval,yP,v6 t_];exact .inl (h _)
end
def rM (x:ak)(m:Lp)(h:List Int):dG Lp:=if(jA x 0 h).isEmpty then .go .ready else .bad .busy
theorem Qc{x:ak}:∀(l:List (List Int)),bG (rM x) l .ready=if l.any (λh=> !(jA x 0 h).isEmpty)=true then .bad .busy else .go .ready
 |[]=>by simp[bG]
 |h::l=>by
  have ih:=Qc (x:=x) l;by_cases he:(jA x 0 h).isEmpty=true
  ·have e1:rM x .ready h=.go .ready:=(by unfold rM;rw[if_pos he]);rw[bG,e1];dsimp only;rw[ih];simp only[YU,he,ao',ZD]
  ·have e1:rM x .ready h=.bad .busy:=(by unfold rM;rw[if_neg he]);rw[bG,e1];dsimp only;have e2:(jA x 0 h).isEmpty=false:=(by simpa using he);simp only[YU,e2,YE,ak_,if_true]
theorem agK(l:List (List Int)):bG (λ(_:Lp) (_:List Int)=>(.bad .busy:dG Lp)) l .ready=if l.isEmpty then .go .ready else .bad .busy:=by
 cases l<;>rfl
def Cx (x:ak)(i:Nat):List aa:=[.cells x.l 76,.cells [iv i] 3,.obj (.deferred (some [])),.gone]
def kQ (x:ak)(H:List aa):Nat->List aa
 |0=>H++[.cells x.l 76,.cells [bv false] 4]
 |i+1=>kQ x H i++Cx x i
def x6 (H:List aa):Nat->List Nat
 |0=>[]
 |i+1=>(H.length+2+4* i+2)::x6 H i
theorem JA(x:ak)(H:List aa):∀i,(kQ x H i).length=H.length+2+4* i
 |0=>by simp[kQ]
 |i+1=>by simp[kQ,Cx,JA x H i];omega
theorem Qb(x:ak)(H:List aa):∀i,∃Y,kQ x H i=H++[.cells x.l 76,.cells [bv false] 4]++Y
 |0=>⟨[],by simp[kQ]⟩
 |i+1=>by
  obtain⟨Y,h⟩:=Qb x H i;exact⟨Y++Cx x i,by rw[kQ,h,SC]⟩
theorem Jz(x:ak)(H:List aa):∀(i:Nat)(L:List aa),∃Y,iT (x6 H i) (kQ x H i++L)=some (H++[.cells x.l 76,.cells [bv false] 4]++Y)
 |0,L=>⟨L,by rw[x6,Ar,kQ]⟩
 |i+1,L=>by
  have hl:=JA x H i;have e:(kQ x H (i+1)++L)=kQ x H i++(Cx x i++L):=by rw[kQ,SC]
  have hg:(kQ x H i++(Cx x i++L))[H.length+2+4* i+2]?=some (.obj (.deferred (some []))):=by rw[<- hl,aW];rfl
  obtain⟨Y,hY⟩:=Jz x H i ([.cells x.l 76,.cells [iv i] 3,.gone,.gone]++L);refine⟨Y,?_⟩;rw[x6,e,Aq hg,<- hl,dL];exact hY
theorem Qa(x:ak)(H:List aa)(i:Nat)(L:List aa):(kQ x H i++L)[H.length]?=some (.cells x.l 76)/\(kQ x H i++L)[H.length+1]?=some (.cells [bv false] 4):=by
 obtain⟨Y,h⟩:=Qb x H i;rw[h,SC,SC];exact⟨aW H _ 0,aW H _ 1⟩
section
variable {lv:Bool}
theorem aj4{P:SI}(rs:List UT)(n:Nat)(c:AV×List AV)(k kp:AV->List aa->Prop)(pv:AV)(s:AS)(ms:List Nat):zU lv P rs n c k kp (.panic pv) s ms=ao (iT ms s.H) λH'=>ry lv P c H' (some pv) (λH'=>ao (ik P ⟨s.T,H'⟩ rs) λl=>cJ n H' (jc l) k) (λH'=>cJ n H' pv kp):=by rw[zU]
theorem aj5{P:SI}(rs:List UT)(n:Nat)(c:AV×List AV)(k kp:AV->List aa->Prop)(s:AS)(ms:List Nat):zU lv P rs n c k kp .ret s ms=ao (iT ms s.H) λH'=>ry lv P c H' none (λH'=>ao (ik P ⟨s.T,H'⟩ rs) λl=>cJ n H' (jc l) k) (λ_=>False):=by rw[zU]
theorem ajo{H:List aa}{k kp:AV->List aa->Prop}{x:ak}(hx:x.Ok)(hk:k (bv (wB x)) H):bc lv SA 71 H [x.av] k kp:=by
 refine ajY (rs:=[.cell 2 4]) (nt:=24) F.f71 rfl rfl rfl (by simp) λhH hA=> ?_;simp only[bk,SU,ak.av];have KN:=ES hx;have hp:=hx.am;obtain⟨p,eJ⟩:∃p:Nat,x.am=p:=⟨x.am.toNat,by omega⟩;have bS:x.l=[iv x.first,iv x.hours,iv x.am,dt x.seen,aT x.pieces,aT x.aC]:=rfl;have aS:∀(L:List aa),(H++L)[H.length]?=L[0]?:=λL=>aW H L 0;have hw:SD.wrap (x.am+1)=((p+1:Nat):Int):=by rw[eJ,br _ (by omega)];rfl
 refine ah ?_;simp only[seval,F.Ps];refine PV (n:=1) rfl rfl rfl rfl rfl rfl (by kernel_rfl) ?_;(try simp only[seval,Ue,UH,Um,TU]);refine⟨⟨_,_,_,rfl⟩,_,rfl,λbs=> ?_⟩;refine FM ?_;refine td ?_;refine ah ?_;simp only[seval,aS,bS,hw];refine xV ?_;refine PW (measure λi=>p+1-i).wf (λi:Nat=>⟨[(10,iv i),(9,iv ((p+1:Nat):Int)),(2,.op (H.length+1) 0),(1,.op H.length 0)],kQ x H i⟩) (λi=>x6 H i) (λi=>i<=p+1/\∀j,j<i->∀h∈kU x j,(jA x 0 h).isEmpty=true) 0 (dY (by simp only[seval];simp[a_,Wk.refl]) rfl) rfl ⟨by omega,λj hj=>by omega⟩ λi aq=> ?_;obtain⟨oW,fD⟩:=aq;have cR:=JA x H i;have oR:=λL=>(Qa x H i L).1;have yw:=λL=>(Qa x H i L).2;obtain⟨N,hN⟩:∃N,N=H.length+2+4* i:=⟨_,rfl⟩;rw[<- hN]at cR;have hbx:(kQ x H i)[H.length]?=some (.cells x.l 76):=by have:=oR [];rwa [SO]at this
 refine td ?_;refine aj ?_;refine td ?_;refine aD ?_;refine⟨λh=> ?_,λh=> ?_⟩
 ·
  have qK:i<=3:=by omega
  refine aK ?_;refine FM ?_;refine xV ?_;refine td ?_;refine aj ?_;refine td ?_;refine ah ?_;simp only[seval,hbx,bS];refine aH ((Kj (x:=x) (n:=i) ?_));rw[cR];(try simp only[seval]);refine xV ?_;refine Jr (by rfl) λl fn T ag bo hT yr qJ=> ?_;have ng:(kQ x H i++[aa.cells x.l 76,aa.cells [iv i] 3]).length=N+2:=by rw[SL,cR];rfl
  (try simp only[seval]);rw[cR];obtain⟨B,hB⟩:∃B,B=kQ x H i:=⟨_,rfl⟩;rw[<- hB]at cR hbx oR yw⊢;have bg:∀(L:List aa)(j:Nat),(B++L)[N+j]?=L[j]?:=λL j=>by rw[<- cR,aW]
  have FQ:∀(L:List aa)(j:Nat)(y:aa),(B++L).set (N+j) y=B++L.set j y:=λL j y=>by rw[<- cR,dL]
  have aak:∀(M:List aa)(lp:Lp),bF (B++([aa.cells x.l 76,.cells [iv i] 3,.obj (.deferred (some [])),.loop l .ready none fn T 24 #[16] ag bo (N+2)]++M))->bF (B++([aa.cells x.l 76,.cells [iv i] 3,.obj (.deferred (some [])),.loop l lp.st lp.pe fn T 24 #[16] ag bo (N+2)]++M)):=λM lp iz z hz=>by
   have hlen:(B++([aa.cells x.l 76,.cells [iv i] 3,.obj (.deferred (some [])),.loop l lp.st lp.pe fn T 24 #[16] ag bo (N+2)]++M)).length=(B++([aa.cells x.l 76,.cells [iv i] 3,.obj (.deferred (some [])),.loop l .ready none fn T 24 #[16] ag bo (N+2)]++M)).length:=(by simp);have hl:=iz (.loop l .ready none fn T 24 #[16] ag bo (N+2)) (by simp);rw[hlen];rcases SS.1 hz with h'|h'
   ·exact iz z (Th _ h')
   ·rcases SS.1 h' with h'|h'
    ·simp only[SK,SZ,or_false]at h';rcases h' with rfl|rfl|rfl|rfl
     ·exact iz _ (by simp)
     ·exact iz _ (by simp)
     ·exact iz _ (by simp)
     ·exact hl
    ·exact iz z (S4 _ (S4 _ h'))
  have hY:j6 lv SA (.fn (.yield l) [] []) (rM x) (λlp:Lp=>B++[.cells x.l 76,.cells [iv i] 3,.obj (.deferred (some [])),.loop l lp.st lp.pe fn T 24 #[16] ag bo (N+2)]) (N+4) (λlp=>lp=.ready) (λh=>mX h/\∀ns∈gg x h,∀a∈(iE x h ns).map (dE h ns),jF x a) vW:=by
   refine⟨λlp h M k kp hO ha dK=> ?_,λlp h Ee hO ha he=> ?_,λlp=>by simp[cR],λm lp Ee hz z fl=> ?_,rfl,rfl,rfl⟩
   ·replace hO:lp=.ready:=hO;subst hO;obtain⟨pO,DU⟩:=ha;have h4:=pO.len;have nS:(h.map iv).length=4:=(by rw[Ta,h4]);obtain⟨Lo,lA⟩:∃Lo,Lo=aa.loop l .busy none fn T 24 #[16] ag bo (N+2):=⟨_,rfl⟩;obtain⟨P1,dB⟩:∃P1:List aa,P1=B++([.cells x.l 76,.cells [iv i] 3,.obj (.deferred (some [])),Lo]++M):=⟨_,rfl⟩;have eC:P1.length=N+4+M.length:=(by rw[dB];simp[cR];omega);have pg3:∀(L:List aa),(P1++L)[N+3]?=some Lo:=λL=>(by rw[dB,SC,bg];rfl);have px:∀(L:List aa),(P1++L)[H.length]?=some (.cells x.l 76):=λL=>(by rw[dB,SC];exact oR _);have pb:∀(L:List aa)(j:Nat),(P1++L)[N+4+M.length+j]?=L[j]?:=λL j=>(by rw[<- eC,aW]);have xo:∀(L:List aa),(P1++L)[N+4+M.length]?=L[0]?:=λL=>pb L 0;have qi:∀(L:List aa)(y:aa),(P1++L).set (N+4+M.length+4) y=P1++L.set 4 y:=λL y=>(by rw[<- eC,dL]);have s3:∀(L:List aa) y,(P1++L).set (N+3) y=B++([.cells x.l 76,.cells [iv i] 3,.obj (.deferred (some [])),y]++M)++L:=λL y=>by
     rw[dB,SC,FQ];simp
    subst hT yr qJ;rw[SC];refine wA (id:=N+3) (by rw[bg];rfl) rfl (by kernel_rfl) λoN KO=> ?_;simp only[sP];have wT:T5 4 [iv 0,iv 0,iv 0,iv 0]=[]:=rfl;refine ah ?_;simp only[seval,h4,wT];unfold uK;refine⟨none,fn,_,24,#[16],_,_,_,by rw[bg];rfl,?_⟩;dsimp only;rw[FQ];simp only[UK,T9];rw[<- lA];have ym:B.length+(M.length+1+1+1+1)=N+4+M.length:=(by rw[cR];omega);rw[ym];have yD:∀z:aa,(B++aa.cells x.l 76::aa.cells [AV.val (SF SD ↑i)] 3::aa.obj (avA (some []))::Lo::(M++[z]))=P1++[z]:=λz=>(by rw[dB];simp[iv]);rw[yD];refine ah ?_;simp only[seval,px,bS,xo,h4,nS];rw[SV (i:=4) (l:=h.map iv) (by rw[nS];exact SP _)];refine aH ((Kk (x:=x) (h:=h) (deep:=0) ?_));(try simp only[seval]);refine bU ?_;refine FK (N+3) (by rfl) (by show (P1++_)[N+3]?=_;rw[pg3,lA]) λl2 eW T2 gI gJ oO yu yx=> ?_;simp only[seval];rw[eC];have yq:j6 lv SA (.fn (.yield l2) [] []) (λ(_:Lp) (_:List Int)=>(.bad .busy:dG Lp)) (λlp:Lp=>P1++[.cells (h.map iv) 83,.cells x.l 76,.cells (h.map iv) 83,.cells [iv 0] 3,.loop l2 lp.st lp.pe eW T2 24 #[20] gI gJ (N+2)]) (N+4+M.length+5) (λlp=>lp=.ready) (λa=>a.length=11) vW:=by
     refine⟨λlp t M2 k2 y_ hO ht lG=> ?_,λlp t Ee hO ht he=>(by cases he),λlp=>by simp[eC],λq lp Ee hz z fl=> ?_,rfl,rfl,rfl⟩
     ·replace hO:lp=.ready:=hO;subst hO;simp only[cZ]at lG;have mq:∀(L:List aa),(P1++L)[N+4+M.length+4]?=L[4]?:=λL=>pb L 4;subst oO yu yx;rw[SC];refine wA (id:=N+4+M.length+4) (by rw[mq];rfl) rfl (by kernel_rfl) λrS KP=> ?_;simp only[sP];refine aK ?_;unfold uK;refine⟨none,eW,_,24,#[20],_,_,_,by rw[mq];rfl,?_⟩;dsimp only;rw[qi];simp only[UK,T9];refine ah ?_;simp only[seval,F.M6];show cJ _ (P1++_) _ y_;rw[SC]at lG;exact b8 lG
     ·rcases SS.1 fl with h'|h'
      ·exact hz z (Th _ h')
      ·have hl:=hz _ (S4 _ (S8 (i:=4) rfl));simp only[SK,SZ,or_false]at h';rcases h' with rfl|rfl|rfl|rfl|rfl
       ·exact hz _ (S4 _ (by simp))
       ·exact hz _ (S4 _ (by simp))
       ·exact hz _ (S4 _ (by simp))
       ·exact hz _ (S4 _ (by simp))
       ·exact hl
    rw[eC]at oO;have GV:∀n,Lt n vW:=λn=>(by simp[vW,abQ,ul]);refine cC (Kq (x:=x) (h:=h) (deep:=0) (ir:=N+4+M.length+1) (ih:=N+4+M.length+1+1) (id:=N+4+M.length+1+2) (σ:=Lp.ready) hx pO yq (λlp L=> ?_) (λlp L=> ?_) (λlp L=> ?_) GV rfl (λa ha=>ha) (λns iL a ha=>(DU ns iL a ha).len) ?_)
    ·rw[SC];exact pb _ 1
    ·rw[SC];exact pb _ 2
    ·rw[SC];exact pb _ 3
    rw[agK];have mq:∀(L:List aa),(P1++L)[N+4+M.length+4]?=L[4]?:=λL=>pb L 4;by_cases tM:(jA x 0 h).isEmpty=true
    ·rw[if_pos tM];have e1:rM x .ready h=.go .ready:=(by unfold rM;rw[if_pos tM]);rw[e1]at dK;simp only[cZ]at dK;simp only[gk,SO];refine⟨.ready,none,_,_,_,_,_,_,_,by rw[mq];rfl,by decide,?_⟩;rw[qi,Ic];(try simp only[seval]);show py _ _ _ _ _ _ _;refine⟨l,.busy,none,fn,_,24,#[16],_,_,N+2,by show (P1++_)[_]?=_;rw[pg3,lA],?_⟩;show cJ (N+4+M.length) ((P1++_).set _ _) _ k;rw[s3];rw[SC]at dK;exact jI (G:=[.cells (h.map iv) 83,.cells x.l 76,.cells (h.map iv) 83,.cells [iv 0] 3,.gone]) (Wk.refl _) (by simp[iv];exact⟨rfl,rfl⟩) (by simp[cR];omega) (aak M .ready oN) (.val _) dK
    ·rw[if_neg tM];have e1:rM x .ready h=.bad .busy:=(by unfold rM;rw[if_neg tM]);rw[e1]at dK;simp only[cZ]at dK;simp only[gk,SO];show cJ (N+4+M.length) (P1++_) vW kp;rw[SC]at dK;refine jI (H':=B++([aa.cells x.l 76,.cells [iv i] 3,.obj (.deferred (some [])),.loop l Lp.busy.st Lp.busy.pe fn _ 24 #[16] _ _ (N+2)]++M)) (Wk.refl _) (by rw[dB,lA];rfl) (by simp[cR];omega) (aak M .busy oN) (GV _) dK
   ·replace hO:lp=.ready:=hO;subst hO;unfold rM at he;split at he
    ·cases he;rfl
    ·cases he
   ·rcases SS.1 fl with h'|h'
    ·exact hz z (Th _ h')
    ·have hl:=hz _ (S4 _ (S8 (i:=3) rfl));simp only[SK,SZ,or_false]at h';rcases h' with rfl|rfl|rfl|rfl
     ·exact hz _ (S4 _ (by simp))
     ·exact hz _ (S4 _ (by simp))
     ·exact hz _ (S4 _ (by simp))
     ·exact hl
  have GV:∀n,Lt n vW:=λn=>by simp[vW,abQ,ul]
  refine cC (Km (x:=x) (bm:=i) (ir:=N) (it:=N+1) (σ:=Lp.ready) hx hY (λlp L=> ?_) (λlp L=> ?_) qK GV rfl (λa ha=>KN i qK a ha) ?_)
  ·rw[SC];exact bg _ 0
  ·rw[SC];exact bg _ 1
  rw[Qc];have bJ:SD.wrap ((i:Int)+1)=((i+1:Nat):Int):=by rw[br _ (by omega)];rfl
  by_cases Gp:(kU x i).any (λh=> !(jA x 0 h).isEmpty)=true
  ·rw[if_pos Gp];have Lc:wB x=true:=by
    unfold wB;rw[UO];exact⟨i,by rw[TW];omega,Gp⟩
   rw[Lc]at hk;simp only[gk,SO];(try simp only[seval,aj4]);obtain⟨Y,wL⟩:=Jz x H i [.cells x.l 76,.cells [iv i] 3,.gone,.loop l .busy none fn T 24 #[16] ag bo (N+2)];rw[<- hB]at wL;have hgo:iT ((N+2)::x6 H i) (B++[.cells x.l 76,.cells [iv i] 3,.obj (.deferred (some [])),.loop l Lp.busy.st Lp.busy.pe fn T 24 #[16] ag bo (N+2)])=some (H++[.cells x.l 76,.cells [bv false] 4]++Y):=by
    rw[Aq (by rw[bg];rfl),FQ];exact wL
   refine ew hgo ?_;have du:(H++[aa.cells x.l 76,.cells [bv false] 4]++Y)[H.length+1]?=some (.cells [bv false] 4):=(by rw[SC];exact aW H _ 1);refine ajC du λL=> ?_;have cq:((H++[aa.cells x.l 76,.cells [bv false] 4]++Y).set (H.length+1) (.cells [bv true] 4)++L)[H.length+1]?=some (.cells [bv true] 4):=by
    rw[SC,dL,SC];exact aW H _ 1
   (try simp only[seval,ik,vY,cq,aa.cellsOf]);exact jj hH hk
  ·rw[if_neg Gp];simp only[gk,SO];refine⟨.ready,none,_,_,_,_,_,_,_,by show (B++_)[N+3]?=_;rw[bg];rfl,by decide,?_⟩;rw[show N+2+1=N+3 from rfl,FQ,Ib];(try simp only[seval]);refine FL ?_;refine ah ?_;simp only[seval,bJ];refine⟨i+1,?_,⟨by omega,λj hj g hm=> ?_⟩,dY (by push_cast;simp only[seval];simp[a_,Wk.refl]) (by rw[hB];rfl),by rw[x6,hN]⟩
   ·show p+1-(i+1)<p+1-i;omega
   ·by_cases cx:j<i
    ·exact fD j cx g hm
    ·have:j=i:=(by omega);subst this;apply Tv;intro aG;exact Gp (UO.2 ⟨g,hm,by simpa using aG⟩)
 ·
  have dD:i=p+1:=by omega
  subst dD;have Lc:wB x=false:=by
   unfold wB;rw[Bool.eq_false_iff];intro hc;obtain⟨j,h1,h2⟩:=UO.1 hc;obtain⟨h,h3,h4⟩:=UO.1 h2;rw[TW]at h1;have:=fD j (by omega) h h3;rw[this]at h4;cases h4
  rw[Lc]at hk;have aac:(kQ x H (p+1))[H.length+1]?=some (.cells [bv false] 4):=by have:=yw [];rwa [SO]at this
  refine bR ?_;refine td ?_;refine ah ?_;simp only[seval,aac];rw[rj aac];refine FL ?_;refine pC ?_;rw[aj5];obtain⟨Y,wL⟩:=Jz x H (p+1) [];rw[SO]at wL;refine ew wL ?_;refine ajB λL=> ?_;have cq:(H++[aa.cells x.l 76,.cells [bv false] 4]++Y++L)[H.length+1]?=some (.cells [bv false] 4):=by
   rw[SC,SC];exact aW H _ 1
  (try simp only[seval,ik,vY,cq,aa.cellsOf]);exact jj hH hk
end
open Go.Conc Go.Proofs Go.Gg.Tk
section
variable {lv:Bool}{H:List aa}{k kp:AV->List aa->Prop}
theorem tr{n lo hi:Int}(hk:k (bv (decide (n<lo)||decide (n>hi))) H):bc lv SA 59 H [iv n,iv lo,iv hi] k kp:=by
 refine bD (rs:=[.tmp 6]) (nt:=15) Tryz.f59 λhH hA=> ?_;simp only[bk,SU];refine aj ?_;by_cases h:n<lo
 ·have h1:decide (n<lo)=true:=by simpa using h
  refine ah ?_;simp only[seval,h1];refine aZ ?_;rw[h1,ak_]at hk;exact b8 hk
 ·have h1:decide (n<lo)=false:=by simpa using h
  refine ah ?_;simp only[seval,h1];refine aZ ?_;rw[h1,ZD]at hk;exact b8 hk
theorem Kc{b:iS}{hi e at':Int}(hb:sT b hi)(hk:k (.val .nilIface) H):bc lv SA 104 H [b.av,iv hi,iv e,iv at'] k kp:=by
 refine bD (rs:=[.tmp 8]) (nt:=33) Tryz.f104 λhH hA=> ?_;simp only[bk,SU,iS.av];have h1:(decide (b.min<0)||decide (b.min>hi))=false:=by have:=hb.min;have:=hb.le;have:=hb.max;simp;omega
 have h2:(decide (b.max<0)||decide (b.max>hi))=false:=by have:=hb.min;have:=hb.le;have:=hb.max;simp;omega
 have h3:decide (b.min>b.max)=false:=by have:=hb.le;simp;omega
 refine aj ?_;refine ah ?_;simp only[seval,iS.l];refine aH ((tr ?_));(try simp only[seval,h1]);refine aH ((tr ?_));(try simp only[seval,h2]);refine aD ?_;refine ah ?_;simp only[seval,h3];refine aD ?_;refine aK ?_;refine aj ?_;refine aZ ?_;exact jj hH hk
theorem ajg(hk:k (bv true) H):bc lv SA 52 H [] k kp:=by
 refine bD (rs:=[.tmp 0]) (nt:=1) Tryz.f52 λhH hA=> ?_;simp only[bk,SU];refine aj ?_;refine aj ?_;refine aZ ?_;exact b8 hk
theorem aiF{t:AV}(hk:k (bv false) H):bc lv SA 105 H [.val .nilIface,t] k kp:=by
 refine bD (rs:=[.tmp 4]) (nt:=42) Tryz.f105 λhH hA=> ?_;simp only[bk,SU];refine aj ?_;refine ah ?_;simp only[seval,F.D4];refine aD ?_;refine aj ?_;refine aZ ?_;exact b8 hk
theorem ajw(hk:k (iv 0) H):bc lv SA 84 H [.val .nilIface] k kp:=by
 refine bD (rs:=[.tmp 2]) (nt:=9) Tryz.f84 λhH hA=> ?_;simp only[bk,SU];refine aj ?_;refine aj ?_;refine ah ?_;simp only[seval,F.amS];refine aH ((aiF ?_));(try simp only[seval]);refine aD ?_;refine aK ?_;refine aj ?_;refine aZ ?_;exact jj hH hk
theorem ajv{x:ak}{y:Seen}{at':Int}(hh:0<=y.hour/\y.hour<=x.hours)(hb:sT y.next 99)(hk:k (.val .nilIface) H):bc lv SA 83 H [x.av,y.av,iv at'] k kp:=by
 refine bD (rs:=[.tmp 6]) (nt:=19) Tryz.f83 λhH hA=> ?_;simp only[bk,SU,ak.av,Seen.av];have bS:x.l=[iv x.first,iv x.hours,iv x.am,dt x.seen,aT x.pieces,aT x.aC]:=rfl;have h1:(decide (y.hour<0)||decide (y.hour>x.hours))=false:=by simp;omega
 refine ah ?_;simp only[seval,bS,Seen.l];refine aj ?_;refine aH ((tr ?_));(try simp only[seval,h1]);refine aD ?_;refine aK ?_;refine aj ?_;refine aH ((Kc (b:=y.next) hb ?_));(try simp only[seval]);refine aZ ?_;exact jj hH hk
theorem Ri{x:ak}{l:List aB}(hx:x.Ok)(hl:∀y∈l,I5 x y)(oY:l.length<=4)(hk:k (.val .nilIface) H):bc lv SA 85 H [x.av,aT l] k kp:=by
 refine bD (rs:=[.tmp 4]) (nt:=34) Tryz.f85 λhH hA=> ?_;simp only[bk,SU,ak.av];have bS:x.l=[iv x.first,iv x.hours,iv x.am,dt x.seen,aT x.pieces,aT x.aC]:=rfl;have aS:∀(L:List aa),(H++L)[H.length]?=L[0]?:=λL=>aW H L 0;have yF:=hx.hours;have yX:SD.wrap (x.hours-1)=x.hours-1:=br _ (by omega);refine ah ?_;simp only[seval,bS];refine ah ?_;simp only[seval,aT];refine bU ?_;refine uN l.length (λi:Nat=>[(11,iv i)]) (λ_=>_) (λi=>True) trivial (λbC bW i cK _ R hR=> ?_);refine aj ?_;refine aD ?_;refine⟨λh=> ?_,λh=> ?_⟩
 ·have bx:i<l.length:=by omega
  obtain⟨y,hy⟩:=bK bx;have D1:=hl y (S8 hy);have bJ:SD.wrap ((i:Int)+1)=((i+1:Nat):Int):=by rw[br _ (by omega)];rfl
  refine aK ?_;refine ah ?_;simp only[seval,BA hy,jh bx];refine aj ?_;refine aH ((Kc (b:=y.number) D1.number ?_));(try simp only[seval]);refine ah ?_;simp only[seval,F.D4];refine aD ?_;refine aK ?_;refine ah ?_;simp only[seval,aS,yX];refine aH ((Kc (b:=y.hour) D1.hour ?_));(try simp only[seval]);refine ah ?_;simp only[seval,F.D4];refine aD ?_;refine aK ?_;refine ah ?_;simp only[seval,bJ];exact hR _ ⟨bx,trivial,Bu (lL rfl rfl) (by simp only[seval];simp[a_,Wk.refl]) bC (by simp[ec])⟩
 ·refine bR ?_;refine aj ?_;refine aZ ?_;exact jj hH hk
theorem Ki{x:ak}(hx:x.Ok)(hk:k (iv 0) H):bc lv SA 62 H [x.av] k kp:=by
 refine bD (rs:=[.tmp 2]) (nt:=62) Tryz.f62 λhH hA=> ?_;simp only[bk,SU,ak.av];have bS:x.l=[iv x.first,iv x.hours,iv x.am,dt x.seen,aT x.pieces,aT x.aC]:=rfl;have aS:∀(L:List aa),(H++L)[H.length]?=L[0]?:=λL=>aW H L 0;have h1:(decide (x.first<0)||decide (x.first>90))=false:=by have:=hx.first;simp;omega
 have h2:(decide (x.hours<1)||decide (x.hours>3))=false:=by have:=hx.hours;simp;omega
 have h3:(decide (x.am<1)||decide (x.am>3))=false:=by have:=hx.am;simp;omega
 have g3:decide ((3:Int)<x.seen.length)=false:=by have:=hx.zw;simp;omega
 have g4:decide ((4:Int)<x.pieces.length)=false:=by have:=hx.ey;simp;omega
 have g5:decide ((3:Int)<x.aC.length)=false:=by have:=hx.dp;simp;omega
 refine ah ?_;simp only[seval,bS];refine ah ?_;simp only[seval,aS];refine aH ((tr ?_));(try simp only[seval,h1,aS]);refine aH ((tr ?_));(try simp only[seval,h2,aS]);refine aH ((tr ?_));(try simp only[seval,h3]);refine aD ?_;refine aK ?_;refine ah ?_;simp only[seval,aS,dt,g3];refine aD ?_;refine aK ?_;refine ah ?_;simp only[seval,aS,dt];refine bU ?_;refine uN x.seen.length (λi:Nat=>[(27,iv i)]) (λ_=>_) (λi=>True) trivial (λbC bW i cK _ R hR=> ?_);refine aj ?_;refine aD ?_;refine⟨λh=> ?_,λh=> ?_⟩
 ·have bx:i<x.seen.length:=by omega
  obtain⟨y,hy⟩:=bK bx;have D1:=hx.seen y (S8 hy);have bJ:SD.wrap ((i:Int)+1)=((i+1:Nat):Int):=by have:=hx.zw;rw[br _ (by omega)];rfl
  refine aK ?_;refine ah ?_;simp only[seval,OC hy,jh bx];refine ah ?_;simp only[seval,aS];refine aH ((ajv (x:=x) (y:=y) D1.1 D1.2 ?_));(try simp only[seval]);refine ah ?_;simp only[seval,F.D4];refine aD ?_;refine aK ?_;refine ah ?_;simp only[seval,bJ];exact hR _ ⟨bx,trivial,Bu (lL rfl rfl) (by simp only[seval];simp[a_,Wk.refl]) bC (by simp[ec])⟩
 ·refine bR ?_;refine ah ?_;simp only[seval,aS,aT,g4];refine aD ?_;refine aK ?_;refine ah ?_;simp only[seval,aS];refine aH ((Ri (x:=x) (l:=x.pieces) hx hx.piece hx.ey ?_));(try simp only[seval]);refine ah ?_;simp only[seval,F.D4];refine aD ?_;refine aK ?_;refine ah ?_;simp only[seval,aS,g5];refine aD ?_;refine aK ?_;refine ah ?_;simp only[seval,aS];refine aH ((Ri (x:=x) (l:=x.aC) hx hx.stub (by have:=hx.dp;omega) ?_));(try simp only[seval]);refine aH ((ajw ?_));(try simp only[seval]);refine aZ ?_;exact jj hH hk
end
def Ph (lv:Bool)(H:List aa)(f:AV)(b:Bool):Prop:=∀(L:List aa)(k kp:AV->List aa->Prop),k (bv b) (H++L)->je lv SA f (H++L) [] k kp
def rq:List AV:=[iv 0,iv 0,iv 0,.sl 0 [] .exact,.sl 0 [] .exact,.sl 0 [] .exact]
def fq (D:Kn):Int:=if D.has then 0 else 11
theorem Ao{x:ak}{deep:Int}{p:Nat}{H:List aa}{k kp:AV->List aa->Prop}{f:AV}{b:Bool}(hx:x.Ok)(hp:x.am=p)(hm:H[0]?=some .main)(hf:Ph true H f b)(iK:b=false->k (.aO [.agg rq,.agg jB,iv 3]) H)(cL:b=true->∀js D L mp,js.Perm (S0 (p+1))->oB x deep js D->bM D->H.length<=mp->(H++L)[mp]?=some (setH D.aM)->k (.aO [x.av,.agg (D.l mp),iv (fq D)]) (H++L)):bc true SA 51 H [x.av,iv deep,f] k kp:=by
 refine bD (rs:=[.cell 6 76,.cell 7 88,.tmp 8]) (nt:=36) Tryz.f51 λhH hA=> ?_;simp only[bk,SU,ak.av];have bS:x.l=[iv x.first,iv x.hours,iv x.am,dt x.seen,aT x.pieces,aT x.aC]:=rfl;have aS:∀(L:List aa),(H++L)[H.length]?=L[0]?:=λL=>aW H L 0;have c_:∀(L:List aa),(H++L)[H.length+1]?=L[1]?:=λL=>aW H L 1;have kF:∀(L:List aa),(H++L)[H.length+2]?=L[2]?:=λL=>aW H L 2;refine aj ?_;refine ah ?_;simp only[seval,aS,bS];refine aH ((Ki (x:=x) hx ?_));(try simp only[seval]);refine aj ?_;refine aD ?_;refine aK ?_;refine aj ?_;refine xZ (hf _ _ _ ?_);(try simp only[seval]);refine aD ?_;refine⟨λhb=> ?_,λhb=> ?_⟩
 ·have dI:b=false:=by simpa using hb
  have:=iK dI;refine aj ?_;refine pC ?_;simp only[seval,c_,kF];exact iH hH (Wk.refl _) (by simp[jV,ul,ec,rq,jB,Nz]) this
 ·have dI:b=true:=by simpa using hb
  refine aK ?_;refine ah ?_;simp only[seval,aS];refine⟨⟨rfl,rfl,rfl⟩,?_⟩;have rY:∀(L:List aa),(H++L)[H.length+3]?=L[3]?:=λL=>aW H L 3;refine ah ?_;simp only[seval,rY];refine aH ((ajs (x:=x) hx (ES hx) hp (fV hm) λjs D L5 iJ jQ cr hl5=> ?_));have b9:=λmp=>Kn.len cr mp;have dV:=vQ D;obtain⟨z0,z1,z2,z3,z4,rfl⟩:∃z0 z1 z2 z3 z4,L5=[z0,z1,z2,z3,z4]:=by
   match L5,hl5 with
   |[a,b,c,d,e],_=>exact⟨a,b,c,d,e,rfl⟩
  (try simp only[seval,b9]);refine⟨dV _,?_⟩;have gz:∀(L:List aa)(j:Nat),(H++L)[H.length+j]?=L[j]?:=λL j=>aW H L j;have vG:∀(L:List aa)(j:Nat)(y:aa),(H++L).set (H.length+j) y=H++L.set j y:=λL j y=>dL H L j y;have ak6:∀(L:List aa),(H++L)[H.length+10]?=L[10]?:=λL=>aW H L 10;obtain⟨mp,tS⟩:∃mp,mp=H.length+4+5:=⟨_,rfl⟩;rw[<- tS];refine ah ?_;simp only[seval,ak6,Kn.CM];obtain⟨kj,fh⟩:∃kj:List AV->List AV->List aa,∀u v,kj u v=H++[.cells x.l 26,.cells u 76,.cells v 88,.cells x.l 76,z0,z1,z2,z3,z4,setH D.aM,.cells (D.l mp) 88]:=⟨_,λ_ _=>rfl⟩;have p1:∀u v,(kj u v)[H.length+1]?=some (.cells u 76):=λu v=>by rw[fh,gz];rfl
  have p2:∀u v,(kj u v)[H.length+2]?=some (.cells v 88):=λu v=>by rw[fh,gz];rfl
  have p3:∀u v,(kj u v)[H.length+3]?=some (.cells x.l 76):=λu v=>by rw[fh,gz];rfl
  have p10:∀u v,(kj u v)[H.length+10]?=some (.cells (D.l mp) 88):=λu v=>by rw[fh,gz];rfl
  have s1:∀u v w,(kj u v).set (H.length+1) (.cells w 76)=kj w v:=λu v w=>by rw[fh,vG,fh];rfl
  have s2:∀u v w,(kj u v).set (H.length+2) (.cells w 88)=kj u w:=λu v w=>by rw[fh,vG,fh];rfl
  have ep:∀(e:Int),e=fq D->k (.aO [x.av,.agg (D.l mp),iv e]) (kj x.l (D.l mp)):=λe he=>by
   rw[he,fh];refine cL dI js D _ mp iJ jQ cr (by omega) ?_;rw[tS,show H.length+4+5=H.length+9 from rfl,gz];rfl
  have e0:=fh rq jB;simp only[rq,jB,bS,iv,bv,wv,TM,Vp,UN,push_cast,Int.cast_ofNat_Int]at e0;rw[<- e0];clear e0;have bu:x.l.length=6:=rfl;have o4:jB.length=28:=rfl;have hzr:rq.length=6:=rfl;have ek:Uh 6 x.l=x.l:=rfl;have Hh:Uh 28 (D.l mp)=D.l mp:=SV (by rw[b9];exact SP _);have wS:∀l:List AV,l.length=28->D.l mp++T5 (D.l mp).length l=D.l mp:=λl hl=>by rw[b9,T7 (by omega),SO]
  have abe:∀a∈x.l,a.leaf=true:=λa ha=>by
   simp only[ak.l,SK,SZ,or_false]at ha;rcases ha with rfl|rfl|rfl|rfl|rfl|rfl<;>rfl
  refine aD ?_;refine⟨λhh=> ?_,λhh=> ?_⟩
  ·have KR:D.has=false:=(by simpa using hh);have:=ep 11 (by rw[fq,KR];rfl);refine nI [2,3] [0,1,2,3,4] [⟨0,false,[],[]⟩,⟨1,false,[],[([2],[2])]⟩,⟨2,true,[2],[]⟩,⟨3,true,[2,3],[]⟩,⟨4,false,[2,3],[]⟩] (λD'=>bif isDone 3 D' then kj x.l (D.l mp)else bif isDone 2 D' then kj x.l jB else kj rq jB) ?_;simp only[seval,p1,p2,p3,p10,s1,s2,b9,bu,o4,hzr,dV];rw[ek,Hh];refine⟨rfl,SP _,abe,rfl,b9 _,by rw[b9];exact SP _,dV _,by rw[wS _ rfl];rfl,?_⟩;refine pC ?_;simp only[seval,p1,p2,b9];rw[Hh];refine ew (a:=[x.av,.agg (D.l mp),iv 11]) rfl ?_;exact b8 this
  ·have KR:D.has=true:=(by simpa using hh);have:=ep 0 (by rw[fq,KR];rfl);refine aK ?_;refine nI [2,3] [0,1,2,3,4] [⟨0,false,[],[]⟩,⟨1,false,[],[([2],[2])]⟩,⟨2,true,[2],[]⟩,⟨3,true,[2,3],[]⟩,⟨4,false,[2,3],[]⟩] (λD'=>bif isDone 3 D' then kj x.l (D.l mp)else bif isDone 2 D' then kj x.l jB else kj rq jB) ?_;simp only[seval,p1,p2,p3,p10,s1,s2,b9,bu,o4,hzr,dV];rw[ek,Hh];refine⟨rfl,SP _,abe,rfl,b9 _,by rw[b9];exact SP _,dV _,by rw[wS _ rfl];rfl,?_⟩;refine pC ?_;simp only[seval,p1,p2,b9];rw[Hh];refine ew (a:=[x.av,.agg (D.l mp),iv 0]) rfl ?_;exact b8 this
namespace Tk
def fM (s:Nat)(more:Int)(i:Nat):List Int:=((S0 i).filter s.testBit).map λn:Nat=>(n:Int)+more
theorem abK(s:Nat)(more:Int)(i:Nat):fM s more (i+1)=if s.testBit i then fM s more i++[(i:Int)+more]else fM s more i:=by
 unfold fM;rw[U4,ZR,Tn];by_cases h:s.testBit i=true
 ·simp[h]
 ·simp[h]
theorem Ns(s:Nat)(more:Int)(i:Nat):(fM s more i).length<=i:=by
 unfold fM;rw[Ta];exact TV (Y6 _ _) (by simp)
end Tk
theorem z1:gG (SF .i64 0) 1=[iv 0]:=rfl
section
variable {lv:Bool}{H:List aa}{k kp:AV->List aa->Prop}
theorem Kh{s:Nat}{more:Int}(hs:s<65536)(hm:0<=more/\more<=1000)(hk:k (aL (fM s more 16)) H):bc lv SA 56 H [wv s,iv more] k kp:=by
 refine bD (rs:=[.tmp 4]) (nt:=21) Tryz.f56 λhH hA=> ?_;simp only[bk,SU];refine aj ?_;refine aj ?_
 (repeat apply gp);refine oH (t:=5) (sz:=1) (el:=3) (by simp only[seval]<;>rfl) ?_
 refine aj ?_;refine bU ?_;refine eI 16 (λi:Nat=>[(5,.sl (fM s more i).length ((fM s more i).map iv) (.opn H.length)),(7,iv i)]) (λi=>H++[.tail (fM s more i).length 1 3]) (λ_=>True) (λ_ _=>rfl) (by simp only[seval];simp[a_,Wk.refl];exact Wk.refl _) rfl (λ_ _ _=>by simp) trivial (λbC bW i cK hi R hR=> ?_);refine aj ?_;refine aD ?_;refine⟨λh=> ?_,λh=> ?_⟩
 ·have hl:i<16:=by omega
  have fW:SD.wrap ((i:Int)+1)=((i+1:Nat):Int):=by rw[br _ (by omega)];rfl
  have vp:SD.wrap ((i:Int)+more)=(i:Int)+more:=br _ (by omega);have fw:=Ns s more i;refine aK ?_;refine aj ?_;refine aj ?_;refine aH ((yc hs ?_));(try simp only[seval]);refine aD ?_;refine⟨λhb=> ?_,λhb=> ?_⟩
  ·refine ah ?_;simp only[seval,z1,vp]
   first|refine⟨by decide,by omega,?_⟩|refine⟨by omega,?_⟩
   refine ah ?_;simp only[seval,fW];have cT:fM s more (i+1)=fM s more i++[(i:Int)+more]:=(by rw[abK,if_pos hb]);refine hR _ ⟨hl,trivial,?_⟩;rw[cT,Tn,SL];exact cz
  ·refine aK ?_;refine ah ?_;simp only[seval,fW];have cT:fM s more (i+1)=fM s more i:=(by rw[abK,if_neg (by simpa using hb)]);refine hR _ ⟨hl,trivial,?_⟩;rw[cT];exact cz
 ·refine bR ?_;have:i=16:=by omega
  subst this;refine aj ?_;refine aZ ?_;rw[aL]at hk;exact iH hH (e9 _ _ _) (by simp[qb,ec]) hk
theorem aju{x:ak}{n:Int}{ir:Nat}(hx:x.Ok)(hr:H[ir]?=some (.cells x.l 26))(hk:k (bv (decide (n<0)||decide (n>(x.pieces.length:Int)-1))) H):bc lv SA 82 H [iv n,.op ir 0] k kp:=by
 refine bD (rs:=[.tmp 3]) (nt:=10) Tryz.f82 λhH hA=> ?_;simp only[bk,SU];have bS:x.l=[iv x.first,iv x.hours,iv x.am,dt x.seen,aT x.pieces,aT x.aC]:=rfl;have n9:=hx.ey;have hw:SD.wrap ((x.pieces.length:Int)-1)=(x.pieces.length:Int)-1:=br _ (by omega);refine aj ?_;refine ah ?_;simp only[seval,hr,bS,aT,hw];refine aH ((tr ?_));(try simp only[seval]);refine aZ ?_;exact b8 hk
theorem aiE{ns:List Int}{f:AV}{e:End}(iL:ns.length<=4)(g:Int->Bool)(hf:∀n∈ns,∀(k kp:AV->List aa->Prop),k (bv (g n)) H->je lv SA f H [iv n] k kp)(hk:k (iv (match ns.findIdx? g with|some i=>(i:Int)|none=> -1)) H):bc lv SA 103 H [.sl ns.length (ns.map iv) e,f] k kp:=by
 refine bD (rs:=[.tmp 4]) (nt:=19) Tryz.f103 λhH hA=> ?_;simp only[bk,SU];refine aj ?_;refine aj ?_;refine bU ?_;refine uN ns.length (λi:Nat=>[(8,iv i)]) (λ_=>_) (λi=>∀n∈ns.take i,g n=false) (by simp) (λbC bW i cK hi R hR=> ?_);refine aj ?_;refine aD ?_;refine⟨λh=> ?_,λh=> ?_⟩
 ·have bx:i<ns.length:=by omega
  obtain⟨n,hn⟩:=bK bx;have fW:SD.wrap ((i:Int)+1)=((i+1:Nat):Int):=by rw[br _ (by omega)];rfl
  refine aK ?_;refine aj ?_;refine ah ?_;simp only[seval,eg hn,jh bx];refine xZ (hf n (S8 hn) _ _ ?_);(try simp only[seval]);refine aD ?_;refine⟨λhg=> ?_,λhg=> ?_⟩
  ·refine aj ?_;refine aZ ?_;have:ns.findIdx? g=some i:=by
    rw[Xx];refine⟨bx,?_,λj hj=> ?_⟩
    ·rw[SX bx]at hn;cases hn;exact hg
    ·have:=hi ns[j] (by rw[List.mem_take_iff_getElem];exact⟨j,by omega,rfl⟩);simp[this]
   rw[this]at hk;exact b8 hk
  ·refine aK ?_;refine ah ?_;simp only[seval,fW];refine hR _ ⟨bx,λm hm=> ?_,cz⟩;rw[Uq,hn]at hm;rcases SS.1 hm with h'|h'
   ·exact hi m h'
   ·simp at h';rw[h'];simpa using hg
 ·have:i=ns.length:=by omega
  subst this;rw[Tp]at hi;refine bR ?_;refine aj ?_;refine aZ ?_;have:ns.findIdx? g=none:=by rw[Yf];exactλn hn=>hi n hn
  rw[this]at hk;exact b8 hk
theorem ajt{ns:List Int}{f:AV}{e:End}(iL:ns.length<=4)(g:Int->Bool)(hf:∀n∈ns,∀(k kp:AV->List aa->Prop),k (bv (g n)) H->je lv SA f H [iv n] k kp)(hk:k (bv (ns.any g)) H):bc lv SA 81 H [.sl ns.length (ns.map iv) e,f] k kp:=by
 refine bD (rs:=[.tmp 4]) (nt:=9) Tryz.f81 λhH hA=> ?_;simp only[bk,SU];refine aj ?_;refine aj ?_;refine aH ((aiE iL g hf ?_));(try simp only[seval]);refine aZ ?_;refine b8 ?_;have:decide ((match ns.findIdx? g with|some i=>(i:Int)|none=> -1)>=0)=ns.any g:=by
  cases h:ns.findIdx? g with
  |none=>
   rw[Yf]at h;have:ns.any g=false:=by
    rw[List.any_eq_false];exactλn hn=>by simp[h n hn]
   rw[this];rfl
  |some i=>
   rw[Xx]at h;obtain⟨h1,h2,_⟩:=h;have:ns.any g=true:=UO.2 ⟨ns[i],Ww h1,h2⟩;rw[this];simp
 rw[this];exact hk
def zq (x:ak)(ns:List Int):Bool:= !(ns.any λn=>decide (n<0)||decide (n>(x.pieces.length:Int)-1))
theorem Kl{x:ak}{ns:List Int}{e:End}{il ir:Nat}(hx:x.Ok)(iL:ns.length<=4)(hl:H[il]?=some (.cells [.sl ns.length (ns.map iv) e] 22))(hr:H[ir]?=some (.cells x.l 26))(hk:k (bv (zq x ns)) H):bc lv SA 80 H [.op il 0,.op ir 0] k kp:=by
 refine bD (rs:=[.tmp 2]) (nt:=7) Tryz.f80 λhH hA=> ?_;simp only[bk,SU];refine aj ?_;refine ah ?_;simp only[seval,hl,Ue,UH,Um,TU];refine aH ((ajt (ns:=ns) iL (λn=>decide (n<0)||decide (n>(x.pieces.length:Int)-1)) (λn hn k kp hk=> ?_) ?_))
 ·exact cC (aju hx hr hk)
 (try simp only[seval]);refine aZ ?_;exact b8 hk
theorem oK{x:ak}{ns:List Int}{e:End}(hk:k (.fn (.func 80) [] [.op (H.length+1) 0,.op H.length 0]) (H++[.cells x.l 26,.cells [.sl ns.length (ns.map iv) e] 22])):bc lv SA 58 H [x.av,.sl ns.length (ns.map iv) e] k kp:=by
 refine bD (rs:=[.tmp 4]) (nt:=6) Tryz.f58 λhH hA=> ?_;simp only[bk,SU,ak.av];refine aj ?_;refine ah ?_;simp only[seval,Ue,UH,Um,TU];refine aZ ?_;exact b8 hk
end
open Go.Conc Go.Proofs Go.Gg.Tk
structure bh where
 aA:List Int
 g:Int
 s:Int
def BG (τ:bh):aa:=.cells [aL τ.aA,.val (.int .i64 τ.g),.val (.int .u64 τ.s)] 73
def IV (a b:Int):Int:=TD.wrap (Ul TD.bits a^^^Ul TD.bits b).toNat
def aex (g:Int):Int:=TD.wrap (TD.wrap (TD.wrap g* 15074714826142052245)+11400714819323198485)
def O3 (τ:bh):Int:=match τ.aA[τ.g.toNat]?with
 |some x=>IV (aex τ.g) (TD.wrap (TD.wrap x* 12620523164723586485))
 |none=>aex τ.g
def aoq (s w:Int):Int:=TD.wrap (TD.wrap (s+w)* 13787848793156543929)
def aor (s:Int):Int:=IV s (s.fdiv (2^min 31 TD.bits))
def H8 (s:Int):Int:=(IV s (s.fdiv (2^min 27 TD.bits))).fdiv (2^min 9 TD.bits)
def tick (τ:bh):bh:=⟨τ.aA,τ.g+1,aor (aoq τ.s (O3 τ))⟩
def xn (τ:bh):Int:=H8 (TD.wrap ((tick τ).s* 10723151780598845931))
theorem aep(n:Int)(h0:0<=n)(h:n<2^64):TD.wrap n=n:=by
 have h1:TD.bits=64:=rfl;have h2:TD.signed=false:=rfl;unfold Xh;rw[h1,h2];simp;omega
theorem ate(n:Int):0<=TD.wrap n/\TD.wrap n<2^64:=by
 have h1:TD.bits=64:=rfl;have h2:TD.signed=false:=rfl;unfold Xh;rw[h1,h2];simp;omega
theorem acx(s:Int):0<=H8 s/\H8 s<2^55:=by
 unfold H8 IV;have h:=ate (Ul TD.bits s^^^Ul TD.bits (s.fdiv (2^min 27 TD.bits))).toNat;have e:(2:Int)^min 9 TD.bits=512:=by decide
 rw[e,Int.fdiv_eq_ediv_of_nonneg _ (show (0:Int)<=512 by decide)];omega
def dg (τ:bh)(n:Int):Int:=if n<1 then 0 else(xn τ).tmod (n+1)
theorem lS(τ:bh)(n:Int):0<=dg τ n/\(dg τ n<=n\/dg τ n=0):=by
 unfold dg;split
 ·omega
 ·have h:=(acx (TD.wrap ((tick τ).s* 10723151780598845931))).1;have h1:=Int.tmod_nonneg (n+1) h;have h2:=Int.tmod_lt_of_pos (xn τ) (show 0<n+1 by omega);unfold xn at h2⊢;omega
def BL (τ:bh)(lo hi:Int):Int:=lo+dg τ (hi-lo)
theorem aev(τ:bh){lo hi:Int}(h:lo<=hi):lo<=BL τ lo hi/\BL τ lo hi<=hi:=by
 have:=lS τ (hi-lo);unfold BL;omega
def aqx (τ:bh)(n:Int):Bool:=dg τ (n-1)==0
structure dO (Gf:bh->List aa)(t N:Nat):Prop where
 len:∀τ,(Gf τ).length=N
 get:∀τ,(Gf τ)[t]?=some (BG τ)
 set:∀τ τ',(Gf τ).set t (BG τ')=Gf τ'
 ok:∀m τ τ',(∀z∈Gf τ,e_ m z)->∀z∈Gf τ',e_ m z
theorem dO.more{Gf:bh->List aa}{t N:Nat}(h:dO Gf t N)(L:List aa):dO (λτ=>Gf τ++L) t (N+L.length)where
 len:=λτ=>by simp[h.len]
 get:=λτ=>fV (h.get τ)
 set:=λτ τ'=>by show (Gf τ++L).set t _=_;rw[UX _ _ (eX (h.get τ)),h.set]
 ok:=λm τ τ' hk z hz=>(SS.1 hz).elim (λhz=>h.ok m τ τ' (λv hv=>hk v (Th _ hv)) z hz) (λhz=>hk z (S4 _ hz))
theorem dO.aq{Gf:bh->List aa}{t N:Nat}(h:dO Gf t N){τ:bh}(hH:bF (Gf τ))(τ':bh):bF (Gf τ'):=λz hz=>by
 have:=h.ok N τ τ' (λw hw=>by have:=hH w hw;rwa [h.len]at this) z hz;rwa [h.len]
section
variable {Gf:bh->List aa}{t N:Nat}(h:dO Gf t N)
include h
theorem dO.g0(τ:bh)(L:List aa):(Gf τ++L)[N]?=L[0]?:=by have:=wn (Gf τ) L 0;rwa [h.len]at this
theorem dO.g1(τ:bh)(L:List aa):(Gf τ++L)[N+1]?=L[1]?:=by have:=wn (Gf τ) L 1;rwa [h.len]at this
theorem dO.g2(τ:bh)(L:List aa):(Gf τ++L)[N+1+1]?=L[2]?:=by have:=wn (Gf τ) L 2;rwa [h.len]at this
theorem dO.g3(τ:bh)(L:List aa):(Gf τ++L)[N+1+1+1]?=L[3]?:=by have:=wn (Gf τ) L 3;rwa [h.len]at this
theorem dO.h2(τ:bh)(L:List aa):(Gf τ++L)[N+2]?=L[2]?:=h.g2 τ L
theorem dO.h3(τ:bh)(L:List aa):(Gf τ++L)[N+3]?=L[3]?:=h.g3 τ L
theorem dO.s0(τ:bh)(L:List aa)(x:aa):(Gf τ++L).set N x=Gf τ++L.set 0 x:=by have:=wq (Gf τ) L 0 x;rwa [h.len]at this
theorem dO.s1(τ:bh)(L:List aa)(x:aa):(Gf τ++L).set (N+1) x=Gf τ++L.set 1 x:=by have:=wq (Gf τ) L 1 x;rwa [h.len]at this
theorem dO.s2(τ:bh)(L:List aa)(x:aa):(Gf τ++L).set (N+1+1) x=Gf τ++L.set 2 x:=by have:=wq (Gf τ) L 2 x;rwa [h.len]at this
theorem dO.s3(τ:bh)(L:List aa)(x:aa):(Gf τ++L).set (N+1+1+1) x=Gf τ++L.set 3 x:=by have:=wq (Gf τ) L 3 x;rwa [h.len]at this
theorem dO.t2(τ:bh)(L:List aa)(x:aa):(Gf τ++L).set (N+2) x=Gf τ++L.set 2 x:=h.s2 τ L x
theorem dO.t3(τ:bh)(L:List aa)(x:aa):(Gf τ++L).set (N+3) x=Gf τ++L.set 3 x:=h.s3 τ L x
end
theorem aoY(m:Nat)(τ:bh):e_ m (BG τ):=by
 intro a ha;simp only[SK,SZ,or_false]at ha;rcases ha with rfl|rfl|rfl
 ·rw[zg];trivial
 ·exact .val _
 ·exact .val _
theorem asV(H:List aa):dO (λτ=>H++[BG τ]) H.length (H.length+1)where
 len:=λτ=>by simp
 get:=λτ=>by simp
 set:=λτ τ'=>by simp
 ok:=λm τ τ' hk z hz=>by
  rcases SS.1 hz with hz|hz
  ·exact hk z (Th _ hz)
  ·rw[S9.1 hz];exact aoY _ _
structure bh.Ok (τ:bh)(b:Int):Prop where
 g0:0<=τ.g
 g:τ.g<=b
 len:τ.aA.length<=2^50
section
variable {lv:Bool}{H:List aa}{k kp:AV->List aa->Prop}{Gf:bh->List aa}{t N:Nat}{τ:bh}{b:Int}
theorem aiU{aA:List Int}(hk:k (.op H.length 0) (H++[BG ⟨aA,0,7640891576956012809⟩])):bc lv SA 16 H [aL aA] k kp:=by
 refine bD (rs:=[.tmp 2]) (nt:=6) Tryz.f16 λhH hA=> ?_;simp only[bk,SU];refine aj ?_;refine aj ?_;refine aZ ?_;exact b8 hk
theorem bh.Ok.tick(h:τ.Ok b):(tick τ).Ok (b+1):=⟨by have:=h.g0;show 0<=τ.g+1;omega,by have:=h.g;show τ.g+1<=b+1;omega,h.len⟩
theorem bh.Ok.mono{b':Int}(h:τ.Ok b)(hb:b<=b'):τ.Ok b':=⟨h.g0,by have:=h.g;omega,h.len⟩
theorem ajj(hT:dO Gf t N)(hτ:τ.Ok b)(hb:b<2^60)(hk:k (.val (.int .u64 (xn τ))) (Gf (tick τ))):bc lv SA 55 (Gf τ) [.op t 0] k kp:=by
 obtain⟨aA,g,s⟩:=τ;obtain⟨l5,hgb,hln⟩:=hτ;simp only at l5 hgb hln;refine bD (rs:=[.tmp 2]) (nt:=76) Tryz.f55 λhH hA=> ?_;simp only[bk,SU];have hg:∀τ,(Gf τ)[t]?=some (.cells [.sl τ.aA.length (τ.aA.map iv) .shut,.val (.int .i64 τ.g),.val (.int .u64 τ.s)] 73):=hT.get;have hs:∀τ (Er:List Int) g' s',(Gf τ).set t (.cells [.sl Er.length (Er.map iv) .shut,.val (.int .i64 g'),.val (.int .u64 s')] 73)=Gf ⟨Er,g',s'⟩:=λτ Er g' s'=>hT.set τ ⟨Er,g',s'⟩;obtain⟨n,rfl⟩:∃n:Nat,g=n:=⟨g.toNat,by omega⟩;have hw:SD.wrap ((n:Int)+1)=n+1:=br _ (by omega);refine aj ?_;refine ah ?_;simp only[seval,hg];refine eO 9 ?_;simp only[seval,hg];refine aD ?_;refine⟨λh=> ?_,λh=> ?_⟩
 ·have iZ:n<aA.length:=by simpa using h
  obtain⟨x,hx⟩:=bK iZ;refine eO 13 ?_;simp only[seval,hg,eg hx,jh iZ,Cj];refine ah ?_;simp only[seval,hg,hw,hs];refine ah ?_;simp only[seval,hg,hs];refine eO 11 ?_;simp only[seval,hg,hs,Ci,Cj];refine ah ?_;simp only[seval,hg];refine ah ?_;simp only[seval,Ci,Cj];refine aZ ?_;refine b8 ?_;unfold xn tick O3 at hk;simp only[VI,hx]at hk;exact hk
 ·have iZ:¬n<aA.length:=by simpa using h
  have hx:aA[n]?=none:=by rw[Ux];omega
  refine aK ?_;refine ah ?_;simp only[seval,hg,hw,hs];refine ah ?_;simp only[seval,hg,hs];refine eO 11 ?_;simp only[seval,hg,hs,Ci,Cj];refine ah ?_;simp only[seval,hg];refine ah ?_;simp only[seval,Ci,Cj];refine aZ ?_;refine b8 ?_;unfold xn tick O3 at hk;simp only[VI,hx]at hk;exact hk
theorem pF{n:Int}(hT:dO Gf t N)(hτ:τ.Ok b)(hb:b<2^60)(hn:n<2^60)(hk:k (iv (dg τ n)) (Gf (tick τ))):bc lv SA 25 (Gf τ) [.op t 0,iv n] k kp:=by
 refine bD (rs:=[.tmp 4]) (nt:=16) Tryz.f25 λhH hA=> ?_;simp only[bk,SU];refine aj ?_;refine aj ?_;refine aH ((ajj hT hτ hb ?_));(try simp only[seval]);refine aj ?_;refine aD ?_;refine⟨λh=> ?_,λh=> ?_⟩
 ·have h:n<1:=by simpa using h
  refine aj ?_;refine aZ ?_;rw[dg,if_pos h]at hk;exact b8 hk
 ·have h:¬n<1:=by simpa using h
  have ho:=acx (TD.wrap ((tick τ).s* 10723151780598845931));have bJ:TD.wrap n=n:=aep n (by omega) (by omega);have eS:TD.wrap (n+1)=n+1:=aep _ (by omega) (by omega);have o0:n+1≠0:=by omega
  have hr:=lS τ n;rw[dg,if_neg h]at hk hr;have kW:SD.wrap ((xn τ).tmod (n+1))=(xn τ).tmod (n+1):=br _ (by omega);refine aK ?_;refine ah ?_;simp only[seval,afz,bJ,eS,kW,o0];refine aZ ?_;exact b8 hk
theorem Q_{lo hi:Int}(hT:dO Gf t N)(hτ:τ.Ok b)(hb:b<2^60)(pQ:0<=lo/\lo<2^20)(GH: -1<=hi/\hi<2^20)(hk:k (iv (BL τ lo hi)) (Gf (tick τ))):bc lv SA 23 (Gf τ) [.op t 0,iv lo,iv hi] k kp:=by
 refine bD (rs:=[.tmp 6]) (nt:=14) Tryz.f23 λhH hA=> ?_;simp only[bk,SU];have bJ:SD.wrap (hi-lo)=hi-lo:=br _ (by omega);have hr:=lS τ (hi-lo);have eS:SD.wrap (lo+dg τ (hi-lo))=lo+dg τ (hi-lo):=br _ (by omega);refine aj ?_;refine ah ?_;simp only[seval,bJ];refine aH ((pF hT hτ hb (by omega) ?_));(try simp only[seval,eS]);refine aZ ?_;exact b8 hk
theorem F2{n:Int}(hT:dO Gf t N)(hτ:τ.Ok b)(hb:b<2^60)(hn:0<=n/\n<2^20)(hk:k (bv (aqx τ n)) (Gf (tick τ))):bc lv SA 46 (Gf τ) [.op t 0,iv n] k kp:=by
 refine bD (rs:=[.tmp 4]) (nt:=10) Tryz.f46 λhH hA=> ?_;simp only[bk,SU];have bJ:SD.wrap (n-1)=n-1:=br _ (by omega);refine aj ?_;refine ah ?_;simp only[seval,bJ];refine aH ((pF hT hτ hb (by omega) ?_));(try simp only[seval]);refine aZ ?_;exact b8 hk
end
theorem um{α:Type}{xs:List α}{i:Nat}{x:α}(h:xs[i]?=some x):x∈xs:=S8 h
def rK (xs:List Int)(n:Int):Int:=if n∈xs then(xs.idxOf n:Int)else -1
theorem abf{n:Int}:∀{xs:List Int}{i:Nat},xs[i]?=some n->n∉xs.take i->xs.idxOf n=i
 |[],i,h,_=>by cases h
 |x::xs,0,h,_=>by cases h;simp
 |x::xs,i+1,h,hn=>by
  rw[VZ,SK,not_or]at hn;have e:(x==n)=false:=beq_eq_false_iff_ne.2 λe=>hn.1 e.symm;rw[List.idxOf_cons,e,cond_false,abf (by simpa using h) hn.2]
theorem agh{xs:List Int}{n:Int}{i:Nat}(h:xs[i]?=some n)(hn:n∉xs.take i):rK xs n=i:=by
 rw[rK,if_pos (um h),abf h hn]
theorem FI(xs:List Int)(n:Int):(0<=rK xs n<->n∈xs)/\(∀i:Nat,rK xs n=i->xs[i]?=some n)/\ -1<=rK xs n:=by
 unfold rK;split
 ·rename_i h;refine⟨⟨λ_=>h,λ_=>by omega⟩,λi hi=> ?_,by omega⟩;obtain rfl:xs.idxOf n=i:=by omega
  have hlt:=List.idxOf_lt_length_of_mem h;rw[SX hlt,List.getElem_idxOf hlt]
 ·rename_i h;exact⟨⟨λe=>by omega,λe=>absurd e h⟩,λi hi=>by omega,by omega⟩
section
variable {lv:Bool}{H:List aa}{k kp:AV->List aa->Prop}
theorem Ra{xs:List Int}{n:Int}{e:End}(hl:xs.length<2^30)(hk:k (iv (rK xs n)) H):bc lv SA 27 H [.sl xs.length (xs.map iv) e,iv n] k kp:=by
 refine bD (rs:=[.tmp 4]) (nt:=19) Tryz.f27 λhH hA=> ?_;simp only[bk,SU];refine aj ?_;refine aj ?_;refine bU ?_;refine uN xs.length (λi:Nat=>[(5,iv i)]) (λ_=>_) (λi=>n∉xs.take i) (by simp) (λbC bW i cK hi R hR=> ?_);clear bC bW;refine aj ?_;refine aD ?_;refine⟨λh=> ?_,λh=> ?_⟩
 ·have bx:i<xs.length:=by omega
  obtain⟨y,hy⟩:=bK bx;have bJ:SD.wrap ((i:Int)+1)=i+1:=br _ (by omega);refine aK ?_;refine ah ?_;simp only[seval,eg hy,jh bx];refine aD ?_;refine⟨λh2=> ?_,λh2=> ?_⟩
  ·have h2:y=n:=(by simpa using h2);subst h2;refine aj ?_;refine aZ ?_;rw[agh hy hi]at hk;exact b8 hk
  ·have h2:¬y=n:=(by simpa using h2);refine aK ?_;refine ah ?_;simp only[seval,bJ];refine hR _ ⟨bx,λhm=> ?_,cz⟩;obtain⟨hj,hle⟩:=SN.1 hy;rw[Vs hj,hle]at hm;rcases SS.1 hm with hm|hm
   ·exact hi hm
   ·exact h2 (S9.1 hm).symm
 ·have qM:i=xs.length:=by omega
  subst qM;rw[Tp]at hi;refine bR ?_;refine aj ?_;refine aZ ?_;rw[rK,if_neg hi]at hk;exact b8 hk
theorem ai2{xs:List Int}{n:Int}{e:End}(hl:xs.length<2^30)(hk:∀v:Int,(0<=v<->n∈xs)->(∀i:Nat,v=i->xs[i]?=some n)-> -1<=v->k (iv v) H):bc lv SA 27 H [.sl xs.length (xs.map iv) e,iv n] k kp:=Ra hl (hk _ (FI xs n).1 (FI xs n).2.1 (FI xs n).2.2)
inductive rH:List AV->List AV->Prop
 |nil:rH [] []
 |cons {a b:AV} {l m:List AV} (h:Wk a b) (t:rH l m):rH (a::l) (b::m)
theorem rH.len{l m:List AV}(h:rH l m):l.length=m.length:=by
 induction h with
 |nil=>rfl
 |cons _ _ ih=>simp[ih]
theorem rH.at{l m:List AV}(h:rH l m):∀(i:Nat)(a b:AV),m[i]?=some a->l[i]?=some b->Wk b a:=by
 induction h with
 |nil=>intro i a b h;simp at h
 |cons h _ ih=>
  intro i a b h1 h2
  match i with
  |0=>cases h1;cases h2;exact h
  |i+1=>exact ih i a b h1 h2
theorem O1{l l':List AV}(h:rH l l'):Wk (.agg l) (.agg l'):=λE v hd=>by
 cases hd with
 |agg hs h1=>
  refine .agg (by rw[hs,h.len]) λi x hx=> ?_;obtain⟨y,hy⟩:=bK (xs:=l) (i:=i) (by rw[h.len];exact eX hx);exact h.at i x y hx hy E _ (h1 i y hy)
theorem zG{n:Nat}{l l':List AV}{e:End}(hl:l.length=l'.length)(h:∀(i:Nat) a b,l'[i]?=some a->l[i]?=some b->Wk b a):Wk (.sl n l e) (.sl n l' e):=λE v hd=>by
 cases hd with
 |sl b o cap f hc he h1 h2=>
  refine .sl b o cap f hc he (λi hi=>h1 i (by omega)) λi x hx=> ?_;obtain⟨y,hy⟩:=bK (xs:=l) (i:=i) (by have:=eX hx;omega);exact h i x y hx hy E _ (h2 i y hy)
 |nil he=>
  have:l'=[]:=UI hl.symm;subst this;exact .nil he
theorem atu{a b c:AV}(h:Wk a b)(k:Wk b c):Wk a c:=λE v hd=>k E v (h E v hd)
theorem O2{n:Nat}{l l':List AV}{e:End}(h:rH l l'):Wk (.sl n l e) (.sl n l' .shut):=atu (zG h.len h.at) (e9 _ _ _)
theorem zo:(1<=2^24)=True:=by simp
theorem Du{H L:List aa}(h:bF H)(hL:∀z∈L,∀n,e_ n z):bF (H++L):=λz hz=>by
 rcases SS.1 hz with h'|h'
 ·exact(h z h').mono (by simp)
 ·exact hL z h' _
theorem uu{base Vi Vn T:List (Nat×AV)}{H H':List aa}(G:List aa)(hk:sW T (Vi++base) Vn)(hv:∀p∈Vn,∃b,look T p.1=some b/\Wk b p.2)(aq:bF H)(hlt:∀p∈Vn,Lt H.length p.2)(hG:H'=H++G):rF base Vi Vn H ⟨T,H'⟩:=⟨hk,hv,G,hG,.inr ⟨aq,hlt⟩⟩
theorem asF{xs ys:List Int}{i:Nat}{x y:Int}(hx:xs[i]?=some x)(hy:ys[i]?=some y)(h:xs.take i=ys.take i)(e:x=y):xs.take (i+1)=ys.take (i+1):=by
 obtain⟨hj,rfl⟩:=SN.1 hx;obtain⟨hk,rfl⟩:=SN.1 hy;rw[Vs hj,Vs hk,h,e]
theorem uZ{xs ys:List Int}{e e':End}(hx:xs.length<2^60)(hk:k (bv (decide (xs=ys))) H):bc lv SA 20 H [.sl xs.length (xs.map iv) e,.sl ys.length (ys.map iv) e'] k kp:=by
 refine bD (rs:=[.tmp 4]) (nt:=26) Tryz.f20 λhH hA=> ?_;simp only[bk,SU];refine aj ?_;refine aj ?_;refine aD ?_;refine⟨λh=> ?_,λh=> ?_⟩
 ·have h:xs≠ys:=λe=>by subst e;simp at h
  refine aj ?_;refine aZ ?_;rw[decide_eq_false h]at hk;exact b8 hk
 ·have h:xs.length=ys.length:=by
   have h:(xs.length:Int)=ys.length:=(by simpa using h);omega
  refine aK ?_;refine aj ?_;refine bU ?_;refine uN xs.length (λi:Nat=>[(5,iv i)]) (λ_=>_) (λi=>xs.take i=ys.take i) (by simp) (λbC bW i cK hi R hR=> ?_);refine aj ?_;refine aD ?_;refine⟨λh2=> ?_,λh2=> ?_⟩
  ·have hlt:i<xs.length:=(by omega);obtain⟨x,DX⟩:=bK hlt;obtain⟨y,gf⟩:=bK (xs:=ys) (i:=i) (by omega);refine aK ?_;refine bU ?_;refine eO 8 ?_;simp only[seval,eg DX,eg gf,jh hlt,jh (eX gf)];refine aD ?_;refine⟨λh3=> ?_,λh3=> ?_⟩
   ·have h3:xs≠ys:=λe=>(by subst e;rw[DX]at gf;cases gf;simp at h3);refine aj ?_;refine aZ ?_;rw[decide_eq_false h3]at hk;exact b8 hk
   ·have h3:x=y:=(by simpa using h3);refine aK ?_;refine aj ?_;refine hR _ ⟨hlt,asF DX gf hi h3,?_⟩;rw[br _ (by omega)];exact cz
  ·have qM:i=xs.length:=(by omega);refine bR ?_;refine aj ?_;refine aZ ?_;have h3:xs=ys:=by
    rw[qM,Tp]at hi;rw[hi,h,Tp]
   rw[decide_eq_true h3]at hk;exact b8 hk
end
def fS (x:ak)(deep:Int)(D:Kn):Prop:=∃(p:Nat)(js:List Nat),x.am=p/\js.Perm (S0 (p+1))/\oB x deep js D/\bM D
theorem ld(x:ak):∀a∈x.l,a.leaf=true:=λa ha=>by
 simp only[ak.l,SK,SZ,or_false]at ha;rcases ha with rfl|rfl|rfl|rfl|rfl|rfl<;>rfl
section
variable {H:List aa}{k kp:AV->List aa->Prop}
theorem Jl{lv:Bool}:Ph lv H (.fn (.func 52) [] []) true:=λL k kp hk=>cC (ajg hk)
theorem aiX{x:ak}(hx:x.Ok)(hm:H[0]?=some .main)(hk:∀D,fS x 0 D->k (.aO [iv (if D.has then(D.aM.length:Int)else 0),iv 0]) H):bc true SA 21 H [x.av] k kp:=by
 refine bD (rs:=[.tmp 2,.tmp 3]) (nt:=19) Tryz.f21 λhH hA=> ?_;simp only[bk,SU,ak.av];have hp:=hx.am;obtain⟨p,eJ⟩:∃p:Nat,x.am=p:=⟨x.am.toNat,by omega⟩;have bS:x.l=[iv x.first,iv x.hours,iv x.am,dt x.seen,aT x.pieces,aT x.aC]:=rfl;have aS:∀(L:List aa),(H++L)[H.length]?=L[0]?:=λL=>aW H L 0;have bu:x.l.length=6:=rfl;have ek:Uh 6 x.l=x.l:=rfl;refine aj ?_;refine ah ?_;simp only[seval,aS,bu,ek];refine aH ((Ao (x:=x) hx eJ (fV hm) Jl (λh=>by cases h) λ_ js D L mp iJ jQ cr tS hg=> ?_));have eY:fS x 0 D:=⟨p,js,eJ,iJ,jQ,cr⟩;have b9:=Kn.len cr mp;have dV:=vQ D mp;obtain⟨B,hB⟩:∃B,B=H++[aa.cells x.l 26]++L:=⟨_,rfl⟩;rw[<- hB]at hg⊢;(try simp only[seval,ak.av,bu,b9]);refine⟨ld x,dV,?_⟩;have fK:∀(L':List aa)(n:Int),k (.aO [iv n,iv 0]) H->cJ H.length (B++L') (.aO [iv n,iv 0]) k:=λL' n h=>by
  rw[hB,SC,SC];exact iH hH (Wk.refl _) (by simp[jV,ec]) h
 have oR:∀(L':List aa),(B++L')[B.length+1]?=L'[1]?:=λL'=>aW B L' 1;have wW:∀(L':List aa),(B++L')[mp]?=some (.obj (.map (D.aM.zipIdx.map eF).toArray D.aM.length)):=λL'=>fV hg;have c_:(D.l mp).drop 1=.mp mp::((D.l mp).drop 2):=rfl;have aJ:=hk D eY;cases hh:D.has with
 |false=>
  have hE:fq D=11:=by rw[fq,hh];rfl
  rw[hh]at aJ;refine ah ?_;simp only[seval,hE,show ((11:Int)==11)=true from rfl];refine aD ?_;refine aj ?_;refine aZ ?_;exact fK _ 0 aJ
 |true=>
  have hE:fq D=0:=by rw[fq,hh];rfl
  rw[hh]at aJ;refine ah ?_;simp only[seval,hE,show ((0:Int)==11)=false from rfl];refine aD ?_;refine aK ?_;refine ah ?_;simp only[seval,oR,c_,wW];have aY:(D.aM.zipIdx.map eF).toArray.size=D.aM.length:=by simp
  rw[ae6 _ _ _ _ _ F.Pl (wW _),aY];refine aZ ?_;exact fK _ _ aJ
end
namespace Tk
def vM (some other:Bool):Int:=if some&&other then 3 else if some then 1 else 2
end Tk
open Go.Conc Go.Proofs Go.Gg.Tk
section
variable {lv:Bool}{H:List aa}{k kp:AV->List aa->Prop}
theorem ajl{D:Kn}{mp s q:Nat}(hD:bM D)(hs:s<3)(hq:q<4)(hk:k (iv (vM ((D.aX.getD s 0).testBit q) (D.aX.getD s 0!=2^q))) H):bc lv SA 60 H [.agg (D.l mp),.db 97 (.agg [iv s,iv q])] k kp:=by
 refine bD (rs:=[.tmp 4]) (nt:=65) Tryz.f60 λhH hA=> ?_;simp only[bk,SU];have b9:=Kn.len hD mp;obtain⟨u,hu⟩:=bK (xs:=D.aX) (i:=s) (by rw[hD.aX];exact hs);have mf:D.aX.getD s 0=u:=by rw[SE,hu];rfl
 rw[mf]at hk;have lu:=hD.mm _ (S8 hu);have b3:(0<=(s:Int)/\(s:Int)<3)=True:=by simp;omega
 have aS:∀(L:List aa),(H++L)[H.length]?=L[0]?:=λL=>aW H L 0;have c_:∀(L:List aa),(H++L)[H.length+1]?=L[1]?:=λL=>aW H L 1;have Db:=Kn.EA hD (mp:=mp) hu;refine aj ?_;refine aj ?_;refine aj ?_;refine ah ?_;simp only[seval,F.amR];refine aD ?_;refine ah ?_;simp only[seval,F.abk];refine aD ?_;refine aj ?_;refine eO 18 ?_;simp only[seval,aS,c_,b3,Db];refine ij (bv (u.testBit q)) (cC (yc lu ⟨rfl,rfl⟩)) ?_;refine ij (wv (2^q)) (cC (u5 (m:=0) (by decide) (show q<16 by omega) ⟨by rw[Nat.zero_or],rfl⟩)) ?_;have aG:((u:Int)!=((2^q:Nat):Int))=(u !=2^q):=by
  rw[Vh,bne_iff_ne,bne_iff_ne];exact not_congr Int.ofNat_inj
 rw[show wv u=AV.val (.int .u16 (u:Int))from rfl,show wv (2^q)=AV.val (.int .u16 ((2^q:Nat):Int))from rfl,Pu,aG];have fin:∀(L:List aa)(n:Int),vM (u.testBit q) (u !=2^q)=n->cJ H.length (H++L) (iv n) k:=λL n h=>by rw[h]at hk;exact jj hH hk
 generalize u.testBit q=s1 at fin⊢;generalize(u !=2^q)=s2 at fin⊢;cases s1<;>cases s2
 all_goals
  refine aj ?_;refine bU ?_;refine bU ?_;refine bU ?_;refine aj ?_;refine aD ?_
 ·refine aK ?_;refine aj ?_;refine aD ?_;refine bR ?_;refine aj ?_;refine aj ?_;refine bR ?_;refine aj ?_;refine aZ ?_;exact fin _ 2 rfl
 ·refine aK ?_;refine aj ?_;refine aD ?_;refine bR ?_;refine aj ?_;refine aj ?_;refine bR ?_;refine aj ?_;refine aZ ?_;exact fin _ 2 rfl
 ·refine aK ?_;refine aj ?_;refine aD ?_;refine aK ?_;refine bR ?_;refine aj ?_;refine bR ?_;refine aj ?_;refine aZ ?_;exact fin _ 1 rfl
 ·refine bR ?_;refine aj ?_;refine aj ?_;refine aj ?_;refine bR ?_;refine aj ?_;refine aZ ?_;exact fin _ 3 rfl
theorem apA{x:ak}{q:Nat}(hq:q<x.pieces.length):zq x [(q:Int)]=true:=by
 unfold zq;simp;omega
theorem ajk{x:ak}{s q ir ip is:Nat}(hx:x.Ok)(hs:s<x.aC.length)(hq:q<x.pieces.length)(hr:H[ir]?=some (.cells x.l 26))(h1:H[ip]?=some (.cells [iv q] 3))(h2:H[is]?=some (.cells [iv s] 3))(hk:k (bv true) H):bc lv SA 57 H [.op ir 0,.op ip 0,.op is 0] k kp:=by
 refine bD (rs:=[.tmp 3]) (nt:=18) Tryz.f57 λhH hA=> ?_;simp only[bk,SU];have bS:x.l=[iv x.first,iv x.hours,iv x.am,dt x.seen,aT x.pieces,aT x.aC]:=rfl;have bu:x.l.length=6:=rfl;have ek:Uh 6 x.l=x.l:=rfl;have aP:=hx.dp;have aS:∀(L:List aa),(H++L)[H.length]?=L[0]?:=λL=>aW H L 0;have c_:∀(L:List aa),(H++L)[H.length+1]?=L[1]?:=λL=>aW H L 1;have aq:=apA hq;have hw:SD.wrap ((x.aC.length:Int)-1)=(x.aC.length:Int)-1:=br _ (by omega);have cK:(decide ((s:Int)<0)||decide ((s:Int)>(x.aC.length:Int)-1))=false:=by simp;omega
 refine aj ?_;refine ah ?_;simp only[seval,z1,hr,h1,bu,ek];(try refine⟨by decide,?_⟩);refine aH ((oK (x:=x) (ns:=[(q:Int)]) (e:=.exact) ?_));(try simp only[seval]);refine aH ((Kl (x:=x) (ns:=[(q:Int)]) (e:=.exact) hx (by simp) (by rw[c_];rfl) (by rw[aS];rfl) ?_));(try simp only[seval,aq,fV hr,fV h2,bS,aT,hw]);refine aH ((tr ?_));(try simp only[seval,cK]);refine aZ ?_;exact jj hH hk
theorem ai4{x:ak}{s q:Nat}(hx:x.Ok)(hs:s<x.aC.length)(hq:q<x.pieces.length)(hm:H[0]?=some .main)(hk:∀D,fS x 2 D->k (.aO [iv (if D.has then vM ((D.aX.getD s 0).testBit q) (D.aX.getD s 0!=2^q)else 0),iv (fq D)]) H):bc true SA 28 H [x.av,iv s,iv q] k kp:=by
 refine bD (rs:=[.tmp 6,.tmp 7]) (nt:=27) Tryz.f28 λhH hA=> ?_;simp only[bk,SU,ak.av];have hp:=hx.am;obtain⟨p,eJ⟩:∃p:Nat,x.am=p:=⟨x.am.toNat,by omega⟩;have aS:∀(L:List aa),(H++L)[H.length]?=L[0]?:=λL=>aW H L 0;have c_:∀(L:List aa),(H++L)[H.length+1]?=L[1]?:=λL=>aW H L 1;have kF:∀(L:List aa),(H++L)[H.length+2]?=L[2]?:=λL=>aW H L 2;have bu:x.l.length=6:=rfl;have ek:Uh 6 x.l=x.l:=rfl;refine aj ?_;refine ah ?_;simp only[seval,aS,bu,ek,Ue,UH,Um,TU];refine aH ((Ao (x:=x) (b:=true) hx eJ (fV hm) (λL k kp hk=>cC (ajk hx hs hq (by rw[SC,aS];rfl) (by rw[SC,kF];rfl) (by rw[SC,c_];rfl) hk)) (λh=>by cases h) λ_ js D L mp iJ jQ cr tS hg=> ?_));have eY:fS x 2 D:=⟨p,js,eJ,iJ,jQ,cr⟩;have b9:=Kn.len cr mp;have dV:=vQ D mp;obtain⟨Y,hY⟩:∃Y:List aa,Y=[aa.cells x.l 26,.cells [iv s] 3,.cells [iv q] 3]++L:=⟨_,rfl⟩;obtain⟨B,hB⟩:∃B,B=H++Y:=⟨_,rfl⟩;have tz:H++[aa.cells x.l 26,.cells [iv s] 3,.cells [iv q] 3]++L=B:=by rw[hB,hY,SC]
 have oR:∀(L':List aa),(B++L')[B.length+1]?=L'[1]?:=λL'=>aW B L' 1;have Gu:∀(L':List aa),(B++L')[H.length+1]?=some (.cells [iv s] 3):=λL'=>by rw[hB,hY,SC,c_];rfl
 have oS:∀(L':List aa),(B++L')[H.length+2]?=some (.cells [iv q] 3):=λL'=>by rw[hB,hY,SC,kF];rfl
 have aJ:=hk D eY;have fK:∀(L':List aa)(n m:Int),k (.aO [iv n,iv m]) H->cJ H.length (B++L') (.aO [iv n,iv m]) k:=λL' n m h=>by
  rw[hB,SC];exact iH hH (Wk.refl _) (by simp[jV,ec]) h
 rw[tz];clear tz hg hB;(try simp only[seval,ak.av,bu,b9]);refine⟨ld x,dV,?_⟩;cases hh:D.has with
 |false=>
  have hE:fq D=11:=by rw[fq,hh];rfl
  rw[hE,hh]at aJ;refine ah ?_;simp only[seval,hE,show ((11:Int)!=0)=true from rfl];refine aD ?_;refine aj ?_;refine aZ ?_;exact fK _ 0 11 aJ
 |true=>
  have hE:fq D=0:=by rw[fq,hh];rfl
  rw[hE,hh]at aJ;refine ah ?_;simp only[seval,hE,show ((0:Int)!=0)=false from rfl];refine aD ?_;refine aK ?_;refine ah ?_;simp only[seval,F.abk,oR,Gu,oS,b9];rw[SV (i:=28) (by rw[b9];exact SP _)];refine aH ((ajl (s:=s) (q:=q) cr (by have:=hx.dp;omega) (by have:=hx.ey;omega) ?_));(try simp only[seval]);refine aZ ?_;exact fK _ _ 0 aJ
end
theorem z2:gG (SF .i64 0) 2=[iv 0,iv 0]:=rfl
section
variable {H:List aa}{k kp:AV->List aa->Prop}
end
namespace Tk
structure io where
 lo:Int
 hi:Int
 is:Bool
def io.add (b:io)(v:Int):io:=if b.is then⟨min b.lo v,max b.hi v,true⟩else⟨v,v,true⟩
end Tk
def Tk.io.l (b:io):List AV:=[iv b.lo,iv b.hi,bv b.is]
section
variable {lv:Bool}{H:List aa}{k kp:AV->List aa->Prop}
theorem ajq{b:io}{v:Int}{i:Nat}(hi:H[i]?=some (.cells b.l 112))(hk:k (.aO []) (H.set i (.cells (b.add v).l 112))):bc lv SA 74 H [.op i 0,iv v] k kp:=by
 refine bD (rs:=[]) (nt:=38) Tryz.f74 λhH hA=> ?_;simp only[bk,SU];have bx:=eX hi;obtain⟨hp,fh⟩:∃hp:List AV->List aa,∀l,hp l=H.set i (.cells l 112):=⟨_,λ_=>rfl⟩;have h0:H=hp b.l:=by rw[fh];exact(rj hi).symm
 have hg:∀l,(hp l)[i]?=some (.cells l 112):=λl=>by rw[fh,UV,if_pos rfl,if_pos bx]
 have hs:∀l l',(hp l).set i (.cells l' 112)=hp l':=λl l'=>by rw[fh,fh,Xc]
 have fin:∀(N:Nat)(l:List AV),l=(b.add v).l->cJ N (hp l) (.aO []) k:=λN l e=>by
  rw[e,fh];exact b8 hk
 rw[h0];clear hH hA fh h0 hi hk;refine ah ?_;simp only[seval,hg,io.l];refine aD ?_;refine⟨λh=> ?_,λh=> ?_⟩
 ·have hb:b.is=false:=by simpa using h
  refine ah ?_;simp(maxSteps:=4000000) only[seval,hg,hs];refine nI [16,19] [0,1,2,3,4,5,6,7,8,9,10,11,12,13,14,15,16,17,18,19] [⟨0,false,[],[]⟩,⟨1,false,[],[([16],[16])]⟩,⟨2,false,[],[]⟩,⟨3,false,[],[]⟩,⟨4,false,[],[]⟩,⟨5,false,[],[]⟩,⟨6,false,[],[]⟩,⟨7,false,[],[]⟩,⟨8,false,[],[]⟩,⟨9,false,[],[]⟩,⟨10,false,[],[]⟩,⟨11,false,[],[]⟩,⟨12,false,[],[([16],[16])]⟩,⟨13,false,[],[([16],[16])]⟩,⟨14,false,[],[]⟩,⟨15,false,[],[]⟩,⟨16,true,[16],[]⟩,⟨17,false,[16],[]⟩,⟨18,false,[16],[]⟩,⟨19,true,[16,19],[]⟩] (λD=>bif isDone 19 D then hp [iv (min v v),iv (max v v),bv true]else bif isDone 16 D then hp [iv (min v v),iv v,bv true]else hp [iv v,iv v,bv true]) ?_;simp only[seval,hg,hs];have m1:(if v<v then v else v)=v:=by split<;>rfl
  have m2:min v v=v:=by omega
  have m3:max v v=v:=by omega
  rw[m1,m2,m3];exact⟨rfl,rfl,fin _ _ (by rw[io.add,if_neg (by rw[hb];decide)];rfl)⟩
 ·have hb:b.is=true:=by simpa using h
  refine aK ?_;refine nI [16,19] [0,1,2,3,4,5,6,7,8,9,10,11,12,13,14,15,16,17,18,19] [⟨0,false,[],[]⟩,⟨1,false,[],[([16],[16])]⟩,⟨2,false,[],[]⟩,⟨3,false,[],[]⟩,⟨4,false,[],[]⟩,⟨5,false,[],[]⟩,⟨6,false,[],[]⟩,⟨7,false,[],[]⟩,⟨8,false,[],[]⟩,⟨9,false,[],[]⟩,⟨10,false,[],[]⟩,⟨11,false,[],[]⟩,⟨12,false,[],[([16],[16])]⟩,⟨13,false,[],[([16],[16])]⟩,⟨14,false,[],[]⟩,⟨15,false,[],[]⟩,⟨16,true,[16],[]⟩,⟨17,false,[16],[]⟩,⟨18,false,[16],[]⟩,⟨19,true,[16,19],[]⟩] (λD=>bif isDone 19 D then hp [iv (min b.lo v),iv (max b.hi v),bv b.is]else bif isDone 16 D then hp [iv (min b.lo v),iv b.hi,bv b.is]else hp [iv b.lo,iv b.hi,bv b.is]) ?_;simp only[seval,hg,hs];have m1:(if v<b.lo then v else b.lo)=min b.lo v:=by split<;>omega
  have m2:(if b.hi<v then v else b.hi)=max b.hi v:=by split<;>omega
  rw[m1,m2];exact⟨rfl,rfl,fin _ _ (by rw[io.add,if_pos hb,hb];rfl)⟩
end
open Go.Conc Go.Proofs Go.Gg.Tk
namespace Tk
def wy (hour:Nat)(hs:List (List Int)):io:=hs.foldl (λb h=>b.add (h.getD hour 0)) ⟨0,0,false⟩
end Tk
section
variable {lv:Bool}{H:List aa}{k kp:AV->List aa->Prop}
theorem ajp{x:ak}{hour:Nat}{ih ir:Nat}(hh:(hour:Int)<=x.hours)(h1:H[ih]?=some (.cells [iv hour] 3))(hr:H[ir]?=some (.cells x.l 26))(hk:k (bv true) H):bc lv SA 73 H [.op ih 0,.op ir 0] k kp:=by
 refine bD (rs:=[.tmp 2]) (nt:=8) Tryz.f73 λhH hA=> ?_;simp only[bk,SU];have bS:x.l=[iv x.first,iv x.hours,iv x.am,dt x.seen,aT x.pieces,aT x.aC]:=rfl;have cK:(decide ((hour:Int)<0)||decide ((hour:Int)>x.hours))=false:=by simp;omega
 refine aj ?_;refine ah ?_;simp only[seval,h1,hr,bS];refine aH ((tr ?_));(try simp only[seval,cK]);refine aZ ?_;exact b8 hk
theorem aja{x:ak}{hour:Nat}(hx:x.Ok)(hh:(hour:Int)<=x.hours)(hm:H[0]?=some .main)(hk:∀D,fS x 0 D->(D.has=false->k (.aO [.agg [iv 0,iv 0],iv 11]) H)/\(D.has=true->∀hs:List (List Int),hs.Perm D.aM->k (.aO [.agg [iv (wy hour hs).lo,iv (wy hour hs).hi],iv 0]) H)):bc true SA 36 H [x.av,iv hour] k kp:=by
 refine bD (rs:=[.cell 4 46,.tmp 5]) (nt:=41) Tryz.f36 λhH hA=> ?_;simp only[bk,SU,ak.av];have hp:=hx.am;have yF:=hx.hours;obtain⟨p,eJ⟩:∃p:Nat,x.am=p:=⟨x.am.toNat,by omega⟩;have aS:∀(L:List aa),(H++L)[H.length]?=L[0]?:=λL=>aW H L 0;have c_:∀(L:List aa),(H++L)[H.length+1]?=L[1]?:=λL=>aW H L 1;have kF:∀(L:List aa),(H++L)[H.length+2]?=L[2]?:=λL=>aW H L 2;have f_:∀(L:List aa)(y:aa),(H++L).set (H.length+2) y=H++L.set 2 y:=λL y=>dL H L 2 y;have bu:x.l.length=6:=rfl;have ek:Uh 6 x.l=x.l:=rfl;refine aj ?_;refine ah ?_;simp only[seval,aS,bu,ek,Ue,UH,Um,TU];refine aH ((Ao (x:=x) (b:=true) hx eJ (fV hm) (λL k kp hk=>cC (ajp hh (by rw[SC,c_];rfl) (by rw[SC,aS];rfl) hk)) (λh=>by cases h) λ_ js D L mp iJ jQ cr tS hg=> ?_));have eY:fS x 0 D:=⟨p,js,eJ,iJ,jQ,cr⟩;have b9:=Kn.len cr mp;have dV:=vQ D mp;obtain⟨iK,cL⟩:=hk D eY;obtain⟨Bf,oM⟩:∃Bf:List AV->List aa,∀l,Bf l=H++([aa.cells x.l 26,.cells [iv hour] 3,.cells l 46]++L):=⟨_,λ_=>rfl⟩;have tz:H++[aa.cells x.l 26,.cells [iv hour] 3,.cells [iv 0,iv 0] 46]++L=Bf [iv 0,iv 0]:=by rw[oM,SC]
 obtain⟨N,hN⟩:∃N,N=H.length+3+L.length:=⟨_,rfl⟩;have dH:∀l,(Bf l).length=N:=λl=>by rw[oM,hN];simp;omega
 have b1:∀l (L':List aa),(Bf l++L')[H.length+1]?=some (.cells [iv hour] 3):=λl L'=>by rw[oM,SC,c_];rfl
 have b2:∀l (L':List aa),(Bf l++L')[H.length+2]?=some (.cells l 46):=λl L'=>by rw[oM,SC,kF];rfl
 have uQ:∀l l' (L':List aa),(Bf l++L').set (H.length+2) (.cells l' 46)=Bf l'++L':=λl l' L'=>by rw[oM,SC,f_,oM];simp
 have bn:∀l (L':List aa)(j:Nat),(Bf l++L')[N+j]?=L'[j]?:=λl L' j=>by rw[<- dH l,aW]
 have wz:∀l (L':List aa)(j:Nat)(y:aa),(Bf l++L').set (N+j) y=Bf l++L'.set j y:=λl L' j y=>by rw[<- dH l,dL]
 rw[tz]at hg⊢;have fK:∀(l:List AV)(L':List aa)(a b:Int)(m:Int),k (.aO [.agg [iv a,iv b],iv m]) H->cJ H.length (Bf l++L') (.aO [.agg [iv a,iv b],iv m]) k:=λl L' a b m h=>by
  rw[oM,SC];exact iH hH (Wk.refl _) (by simp[jV,ec,ul]) h
 (try simp only[seval,ak.av,bu,b9,dH]);refine⟨ld x,dV,?_⟩;cases iW:D.has with
 |false=>
  have hE:fq D=11:=by rw[fq,iW];rfl
  refine ah ?_;simp only[seval,hE,show ((11:Int)!=0)=true from rfl];refine aD ?_;refine ah ?_;simp only[seval,b2,uQ];refine pC ?_;simp only[seval,b2];exact fK _ _ 0 0 11 (iK iW)
 |true=>
  have hE:fq D=0:=by rw[fq,iW];rfl
  refine ah ?_;simp only[seval,hE,show ((0:Int)!=0)=false from rfl];refine aD ?_;refine aK ?_;refine ah ?_;simp only[seval,dH];refine ah ?_;simp only[seval,Ue,UH,Um,TU];have pK:(D.l mp).drop 1=.mp mp::((D.l mp).drop 2):=rfl;obtain⟨ts,dX⟩:∃ts,ts=D.aM.zipIdx:=⟨_,rfl⟩;obtain⟨ck,Gy⟩:∃ck,ck=D.aM.length:=⟨_,rfl⟩;have wW:∀l (L':List aa),(Bf l++L')[mp]?=some (.obj (.map (ts.map eF).toArray ck)):=λl L'=>by
   have h0:(Bf [iv 0,iv 0])[mp]?=some (setH D.aM):=hg;have aG:mp≠H.length+2:=λe=>by
    have:=b2 [iv 0,iv 0] [];rw[SO,<- e,h0]at this;cases this
   have h1:(Bf l)[mp]?=some (setH D.aM):=by
    have:=uQ [iv 0,iv 0] l [];rw[SO,SO]at this;rw[<- this,Uc (λe=>aG e.symm)];exact h0
   rw[dX,Gy];exact fV h1
  have qJ:∀y∈ts,y.2<ck:=λy hy=>by rw[dX]at hy;have:=List.snd_lt_add_of_mem_zipIdx hy;omega
  have Dr:(ts.map (·.2)).Nodup:=by rw[dX,show (λy:List Int×Nat=>y.2)=Prod.snd from rfl,List.zipIdx_map_snd];exact List.nodup_range'
  have h4:∀y∈ts,y.1.length=4:=λy hy=>by rw[dX]at hy;exact cr.h4 _ (E_ hy)
  have eQ:=P8 ts ck qJ;have MF:ts.map (·.1)=D.aM:=by rw[dX,show (λy:List Int×Nat=>y.1)=Prod.fst from rfl,List.zipIdx_map_fst]
  clear dX;refine ah ?_;simp only[seval,dH,bn,pK,wW];obtain⟨ko,fh⟩:∃ko:io->Array Nat->List aa,∀b sn,ko b sn=Bf [iv 0,iv 0]++[.cells x.l 76,.cells (D.l mp) 88,.cells b.l 112,.iter mp ck sn ck]:=⟨_,λ_ _=>rfl⟩;have p1:∀b sn (L':List aa),(ko b sn++L')[H.length+1]?=some (.cells [iv hour] 3):=λb sn L'=>by rw[fh,SC];exact b1 _ _
  have p2:∀b sn (L':List aa),(ko b sn++L')[N+2]?=some (.cells b.l 112):=λb sn L'=>by rw[fh,SC,bn];rfl
  have p3:∀b sn (L':List aa),(ko b sn++L')[N+3]?=some (.iter mp ck sn ck):=λb sn L'=>by rw[fh,SC,bn];rfl
  have p3':∀b sn,(ko b sn)[N+3]?=some (.iter mp ck sn ck):=λb sn=>by have:=p3 b sn [];rwa [SO]at this
  have p4:∀b sn (L':List aa),(ko b sn++L')[N+4]?=L'[0]?:=λb sn L'=>by rw[fh,SC,bn];rfl
  have pm:∀b sn (L':List aa),(ko b sn++L')[mp]?=some (.obj (.map (ts.map eF).toArray ck)):=λb sn L'=>by rw[fh,SC];exact wW _ _
  have N0:∀b sn,(ko b sn)[mp]?=some (.obj (.map (ts.map eF).toArray ck)):=λb sn=>by have:=pm b sn [];rwa [SO]at this
  have s2:∀b sn b' (L':List aa),(ko b sn++L').set (N+2) (.cells (io.l b') 112)=ko b' sn++L':=λb sn b' L'=>by rw[fh,SC,wz,fh,SC];rfl
  have s3:∀b sn OH,(ko b sn).set (N+3) (.iter mp ck OH ck)=ko b OH:=λb sn OH=>by rw[fh,wz,fh];rfl
  have pl:∀b sn,(ko b sn).length=N+4:=λb sn=>by rw[fh];simp[dH]
  have aP:Bf [AV.val (SF SD 0),AV.val (SF SD 0)]++[.cells x.l 76,.cells (D.l mp) 88,.cells [AV.val (SF SD 0),AV.val (SF SD 0),AV.val (Xg false)] 112,.iter mp ck #[] ck]=ko ⟨0,0,false⟩ #[]:=by rw[fh];rfl
  rw[aP];have pO:hour<4:=by omega
  have b4:(0<=(hour:Int)/\(hour:Int)<4)=True:=by simp;omega
  have s46:∀b sn l,(ko b sn).set (H.length+2) (.cells l 46)=Bf l++[.cells x.l 76,.cells (D.l mp) 88,.cells b.l 112,.iter mp ck sn ck]:=λb sn l=>by rw[fh,uQ]
  have p46:∀b sn,(ko b sn)[H.length+2]?=some (.cells [iv 0,iv 0] 46):=λb sn=>by rw[fh,b2]
  have p2':∀b sn,(ko b sn)[N+2]?=some (.cells (io.l b) 112):=λb sn=>by have:=p2 b sn [];rwa [SO]at this
  refine bU ?_;refine z9 (measure λvs:List (List Int×Nat)=>ts.length-vs.length).wf (λvs=>[]) (λvs=>ko (wy hour (vs.map (·.1))) (vs.map (·.2)).toArray) (λvs=>(vs.map (·.2)).Nodup/\∀y∈vs,y∈ts) [] (λ_ _=>rfl) (by simp) rfl (λ_ _=>by simp[pl]) ⟨by simp,by simp⟩ (λbC bW vs aq R hR=> ?_);refine ah ?_;simp only[seval,p3',N0,s3];refine⟨eQ.elim .inl (λh=> .inr (.inl h)),λe he hn=> ?_,λhs=> ?_⟩
  ·obtain⟨y,hy,rfl⟩:∃y∈ts,eF y=e:=(by simpa using he);refine aD ?_;refine aK ?_;refine bU ?_;have tx:=h4 y hy;have Lb:(eF y).born=y.2:=rfl;have hlen:(y.1.map iv).length=4:=(by simp[tx]);have Lm:T5 4 [AV.val (SF SD 0),AV.val (SF SD 0),AV.val (SF SD 0),AV.val (SF SD 0)]=[]:=rfl;obtain⟨w,hw⟩:=bK (xs:=y.1) (i:=hour) (by omega);have MK:y.1.getD hour 0=w:=(by rw[SE,hw];rfl);have MP:y.2∉vs.map (·.2):=(by simpa[eF]using hn);have G5:((vs.map (·.2)).toArray.push y.2)=((vs++[y]).map (·.2)).toArray:=(by simp);have akP:(wy hour (vs.map (·.1))).add w=wy hour ((vs++[y]).map (·.1)):=by
    unfold wy;rw[Tn,Ya];show _=io.add _ (y.1.getD hour 0);rw[MK]
   have tV:((vs++[y]).map (·.2)).Nodup/\∀z∈vs++[y],z∈ts:=by
    refine⟨?_,λz hz=> ?_⟩
    ·rw[Tn,Vd];refine⟨aq.1,by simp,λa ha b hb=> ?_⟩;simp at hb;subst hb;intro e;subst e;exact MP ha
    ·rcases SS.1 hz with h|h
     ·exact aq.2 z h
     ·rw[S9.1 h];exact hy
   have GO:vs.length<ts.length:=by
    have h1:(vs++[y]).Nodup:=Em _ tV.1;have:=h1.length_le_of_subset tV.2;simp at this;omega
   have sg:ts.length-(vs++[y]).length<ts.length-vs.length:=(by simp;omega);have GY:∀b sn,bF (ko b sn):=λb sn z hz=>by
    have Sg:bF (ko ⟨0,0,false⟩ #[]):=bC;rw[pl];rw[fh]at hz;have cK:∀z,z∈ko ⟨0,0,false⟩ #[]->e_ (N+4) z:=λz hz=>by
     have:=Sg z hz;rwa [pl]at this
    rcases SS.1 hz with h|h
    ·exact cK z (by rw[fh];exact Th _ h)
    ·simp only[SK,SZ,or_false]at h;rcases h with rfl|rfl|rfl|rfl
     ·exact cK _ (by rw[fh];simp)
     ·exact cK _ (by rw[fh];simp)
     ·intro a ha;simp only[io.l,SK,SZ,or_false]at ha;rcases ha with rfl|rfl|rfl<;>exact .val _
     ·show mp<N+4;have:=eX (N0 ⟨0,0,false⟩ #[]);rwa [pl]at this
   refine ah ?_;simp only[seval,p3',N0,s3,pl,p4,Lb,Array.back?_push,Rp Dr hy,acr,tx,hlen,Lm];refine ah ?_;simp only[seval,p1,p4,b4,lw hw];refine aH ((ajq (b:=wy hour (vs.map (·.1))) (v:=w) (i:=N+2) (p2 _ _ _) ?_));rw[s2,akP,G5];(try simp only[seval]);refine hR _ ⟨vs++[y],sg,tV,?_⟩;exact acY (lL rfl rfl) (by simp only[seval]<;>simp[a_,Wk.refl]) (GY _ _) (by simp[ec])
  ·have mI:vs.Perm ts:=ac8 aq.1 Dr aq.2 λy hy=>by
    have:=hs (eF y) (by simp;exact⟨y.1,y.2,hy,rfl⟩) (qJ y hy);simpa[eF]using this
   have Mf:(vs.map (·.1)).Perm D.aM:=by
    have:=mI.map (·.1);rw[MF]at this;exact this
   have aJ:=cL iW _ Mf;generalize AE:wy hour (vs.map (·.1))=bv' at aJ;refine aD ?_;refine bR ?_;refine ah ?_;simp only[seval,p2',p46,s46,io.l,AE];refine pC ?_;simp only[seval,b2];exact fK _ _ _ _ 0 aJ
end
open Go.Conc Go.Proofs Go.Gg.Tk
namespace Tk
end Tk
section
variable {lv:Bool}{H:List aa}{k kp:AV->List aa->Prop}
end
open Go.Conc Go.Proofs Go.Gg.Tk
namespace Tk
def Bc (out n:Int):Int:=if 0<=n/\(out<0\/n<out)then n else out
def zd (l:List Int):Int:=l.foldl Bc (-1)
def u7 (aX:List Nat)(i:Nat):List Int:=(S0 i).flatMap λs=>if 1<(fM (aX.getD s 0) 0 16).length then[-1]else fM (aX.getD s 0) 0 16
theorem RV(aX:List Nat)(i:Nat):u7 aX (i+1)=u7 aX i++(if 1<(fM (aX.getD i 0) 0 16).length then[-1]else fM (aX.getD i 0) 0 16):=by
 unfold u7;rw[U4,Un];simp
theorem RU(aX:List Nat):∀i,(u7 aX i).length<=i
 |0=>by simp[u7]
 |i+1=>by
  have:=RU aX i;rw[RV,SL];split
  ·simp;omega
  ·omega
end Tk
theorem II{a a' b b':AV}(h1:Wk a a')(h2:Wk b b'):Wk (.aO [a,b]) (.aO [a',b']):=λE v h=>by
 cases h with
 |aO hs h=>
  refine .aO hs λi x e=> ?_
  match i with
  |0=>cases e;exact h1 _ _ (h 0 a rfl)
  |1=>cases e;exact h2 _ _ (h 1 b rfl)
open Go.Conc Go.Proofs Go.Gg.Tk
section
variable {lv:Bool}{H:List aa}{k kp:AV->List aa->Prop}
theorem ai0{x:ak}(hx:x.Ok)(hm:H[0]?=some .main)(hk:∀D,fS x 2 D->(D.has=false->k (.aO [aL [],iv 11]) H)/\(D.has=true->k (.aO [aL (u7 D.aX x.aC.length),iv 0]) H)):bc true SA 26 H [x.av] k kp:=by
 refine bD (rs:=[.tmp 2,.tmp 3]) (nt:=39) Tryz.f26 λhH hA=> ?_;simp only[bk,SU,ak.av];have hp:=hx.am;have aP:=hx.dp;obtain⟨p,eJ⟩:∃p:Nat,x.am=p:=⟨x.am.toNat,by omega⟩;have bS:x.l=[iv x.first,iv x.hours,iv x.am,dt x.seen,aT x.pieces,aT x.aC]:=rfl;have aS:∀(L:List aa),(H++L)[H.length]?=L[0]?:=λL=>aW H L 0;have bu:x.l.length=6:=rfl;have ek:Uh 6 x.l=x.l:=rfl;refine aj ?_;refine ah ?_;simp only[seval,aS,bu,ek];refine aH ((Ao (x:=x) hx eJ (fV hm) Jl (λh=>by cases h) λ_ js D L mp iJ jQ cr tS hg=> ?_));have eY:fS x 2 D:=⟨p,js,eJ,iJ,jQ,cr⟩;have b9:=Kn.len cr mp;have dV:=vQ D mp;obtain⟨iK,cL⟩:=hk D eY;obtain⟨Y,hY⟩:∃Y:List aa,Y=[aa.cells x.l 26]++L:=⟨_,rfl⟩;obtain⟨B,hB⟩:∃B,B=H++Y:=⟨_,rfl⟩;have tz:H++[aa.cells x.l 26]++L=B:=by rw[hB,hY,SC]
 have AD:∀(L':List aa),(B++L')[H.length]?=some (.cells x.l 26):=λL'=>by rw[hB,hY,SC,aS];rfl
 have bn:∀(L':List aa)(j:Nat),(B++L')[B.length+j]?=L'[j]?:=λL' j=>aW B L' j;have wz:∀(L':List aa)(j:Nat)(y:aa),(B++L').set (B.length+j) y=B++L'.set j y:=λL' j y=>dL B L' j y;have fK:∀(L':List aa)(ns:List Int)(e:End)(m:Int),k (.aO [aL ns,iv m]) H->cJ H.length (B++L') (.aO [.sl ns.length (ns.map iv) e,iv m]) k:=λL' ns e m h=>by
  rw[hB,SC];exact iH hH (II (e9 _ _ _) (Wk.refl _)) (by simp[jV,ec,aL,qb]) h
 rw[tz];clear tz hg;(try simp only[seval,ak.av,bu,b9]);refine⟨ld x,dV,?_⟩;cases iW:D.has with
 |false=>
  have hE:fq D=11:=by rw[fq,iW];rfl
  refine ah ?_;simp only[seval,hE,show ((11:Int)!=0)=true from rfl];refine aD ?_;refine aj ?_;refine aZ ?_;exact fK _ [] .exact 11 (iK iW)
 |true=>
  have hE:fq D=0:=by rw[fq,iW];rfl
  refine ah ?_;simp only[seval,hE,show ((0:Int)!=0)=false from rfl];refine aD ?_;refine aK ?_;refine aj ?_
  (repeat apply gp);refine oH (t:=7) (sz:=1) (el:=3) (by simp only[seval]<;>rfl) ?_
  have pJ:T5 5 x.l=[.sl x.aC.length (x.aC.flatMap aB.l) .shut]:=rfl;refine ah ?_;simp only[seval,AD,pJ];have Cu:∀(L':List aa),(B++L')[B.length+1]?=L'[1]?:=λL'=>bn L' 1;have Aa:∀(L':List aa),(B++L')[B.length+2]?=L'[2]?:=λL'=>bn L' 2;have uQ:∀(L':List aa)(y:aa),(B++L').set (B.length+2) y=B++L'.set 2 y:=λL' y=>wz L' 2 y;obtain⟨gl,kg⟩:∃gl:Nat->List Int,∀i,gl i=u7 D.aX i:=⟨_,λ_=>rfl⟩;have Df:gl 0=[]:=by rw[kg];rfl
  have LD:∀i,(gl i).length<=i:=λi=>by rw[kg];exact RU _ _
  refine bU ?_;refine eI x.aC.length (λi:Nat=>[(7,.sl (gl i).length ((gl i).map iv) (.opn (B.length+2))),(22,iv i)]) (λi=>B++[.cells x.l 76,.cells (D.l mp) 88,.tail (gl i).length 1 3]) (λi=>True) (λ_ _=>rfl) (by rw[Df];simp only[seval];simp[a_,Wk.refl]) (by rw[Df];rfl) (λ_ _ _=>by simp) trivial (λbC bW i cK _ R hR=> ?_);refine aj ?_;refine aD ?_;refine⟨λh=> ?_,λh=> ?_⟩
  ·have bx:i<x.aC.length:=(by omega);obtain⟨u,hu⟩:=bK (xs:=D.aX) (i:=i) (by rw[cr.aX];omega);have lu:=cr.mm _ (S8 hu);have b3:(0<=(i:Int)/\(i:Int)<3)=True:=(by simp;omega);have fW:SD.wrap ((i:Int)+1)=((i+1:Nat):Int):=(by rw[br _ (by omega)];rfl);have Db:=Kn.EA cr (mp:=mp) hu;have cT:gl (i+1)=gl i++(if 1<(fM u 0 16).length then[-1]else fM u 0 16):=by
    rw[kg,kg,RV,SE,hu];rfl
   have hli:=LD i;have fw:=Ns u 0 16;refine aK ?_;refine aj ?_;refine ah ?_;simp only[seval,Cu,b3,Db];refine aH ((Kh lu (by decide) ?_));(try simp only[seval,aL]);refine aj ?_;refine aD ?_;refine⟨λhb=> ?_,λhb=> ?_⟩
   ·refine ah ?_;simp only[seval,z1];(try refine⟨by decide,?_⟩);refine ah ?_;simp only[seval,Aa,uQ];refine⟨by omega,?_⟩;refine ah ?_;simp only[seval,fW];have oR:1<(fM u 0 16).length:=(by have h2:(1:Int)<((fM u 0 16).length:Int):=(by simpa using hb);omega);rw[if_pos oR]at cT;refine hR _ ⟨bx,trivial,?_⟩;rw[cT,Tn,SL];exact cz
   ·refine aK ?_;refine ah ?_;simp only[seval,Aa,uQ];refine⟨by omega,?_⟩;refine ah ?_;simp only[seval,fW];have oR:¬1<(fM u 0 16).length:=(by have h2:((fM u 0 16).length:Int)<=1:=(by simpa using hb);omega);rw[if_neg oR]at cT;refine hR _ ⟨bx,trivial,?_⟩;rw[cT,Tn,SL];exact cz
  ·have dD:i=x.aC.length:=(by omega);subst dD;refine bR ?_;refine aj ?_;refine aZ ?_;have aJ:=cL iW;rw[<- kg]at aJ;exact fK _ _ _ 0 aJ
theorem ajm{ns:List Int}{e:End}(iL:ns.length<=16)(hk:k (iv (zd ns)) H):bc lv SA 69 H [.sl ns.length (ns.map iv) e] k kp:=by
 refine bD (rs:=[.tmp 2]) (nt:=26) Tryz.f69 λhH hA=> ?_;simp only[bk,SU];refine aj ?_;refine aj ?_;refine aj ?_;refine bU ?_;refine eI ns.length (λi:Nat=>[(3,iv (zd (ns.take i))),(8,iv i)]) (λ_=>_) (λi=>True) (λ_ _=>rfl) (by simp only[seval];simp[a_,Wk.refl];exact Wk.refl _) rfl (λ_ _ _=>rfl) trivial (λbC bW i cK _ R hR=> ?_);refine aj ?_;refine aD ?_;refine⟨λh=> ?_,λh=> ?_⟩
 ·have bx:i<ns.length:=by omega
  obtain⟨n,hn⟩:=bK bx;have fW:SD.wrap ((i:Int)+1)=((i+1:Nat):Int):=by rw[br _ (by omega)];rfl
  have cT:zd (ns.take (i+1))=Bc (zd (ns.take i)) n:=by
   unfold zd;rw[Uq,hn,Ya];rfl
  generalize zd (ns.take i)=o at cT hR⊢;refine aK ?_;refine ah ?_;simp only[seval,eg hn,jh bx];by_cases c1:0<=n
  ·have d1:decide (n>=0)=true:=decide_eq_true c1;by_cases c2:o<0
   ·have d2:decide (o<0)=true:=decide_eq_true c2;refine ah ?_;simp only[seval,d1,d2];refine aD ?_;refine aj ?_;refine ah ?_;simp only[seval,fW];rw[Bc,if_pos ⟨c1,.inl c2⟩]at cT;refine hR _ ⟨bx,trivial,?_⟩;rw[cT];exact cz
   ·have d2:decide (o<0)=false:=decide_eq_false c2;by_cases c3:n<o
    ·have d3:decide (n<o)=true:=decide_eq_true c3;refine ah ?_;simp only[seval,d1,d2,d3];refine aD ?_;refine aj ?_;refine ah ?_;simp only[seval,fW];rw[Bc,if_pos ⟨c1,.inr c3⟩]at cT;refine hR _ ⟨bx,trivial,?_⟩;rw[cT];exact cz
    ·have d3:decide (n<o)=false:=decide_eq_false c3;refine ah ?_;simp only[seval,d1,d2,d3];refine aD ?_;refine aK ?_;refine ah ?_;simp only[seval,fW];rw[Bc,if_neg (λhc=>hc.2.elim c2 c3)]at cT;refine hR _ ⟨bx,trivial,?_⟩;rw[cT];exact cz
  ·have d1:decide (n>=0)=false:=decide_eq_false c1;(repeat apply gp);refine agu (by kernel_rfl) ?_;simp only[seval,d1];refine aD ?_;refine aK ?_;refine ah ?_;simp only[seval,fW];rw[Bc,if_neg (λhc=>c1 hc.1)]at cT;refine hR _ ⟨bx,trivial,?_⟩;rw[cT];exact cz
 ·have:i=ns.length:=by omega
  subst this;refine bR ?_;refine aj ?_;refine aZ ?_;rw[Tp];exact b8 hk
end
end Go.Gg
