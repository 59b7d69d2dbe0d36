/- A part of the proof. -/
import Derived.Test.YtkanpclgnhdbiaaGreatDoorTicketGivenCard2
import Derived.Conc.CrowdStepC
import Derived.Conc.LeavingOf
import Derived.Conc.AtomicLaws
import Derived.Conc.AtomicLaws2
import Derived.Conc.MarkLaws
import Derived.Conc.SmallLaws
import Derived.Laws.LoneSync
import Derived.KernelRfl
import Derived.Test.YtkanpclgnhdbiaaGreatDoorProg
import Derived.Conc.TokenWalk
set_option linter.all false
set_option maxRecDepth 4000
set_option maxHeartbeats 4000000
open Array renaming all_eq_true_iff_forall_mem->UE,append_assoc->Xt,empty_append->Xs,ext'->Vz,getD_eq_getD_getElem?->SI,getElem?_eq_getElem->SK,getElem?_eq_some_iff->SR,getElem?_push->Xj,getElem?_setIfInBounds->Wo,getElem?_setIfInBounds_ne->SU,getElem?_setIfInBounds_self_of_lt->S_,getElem_mem->XV,isEmpty_empty->Y1,mem_iff_getElem?->YH,replicate->TK,size->ab_
open BitVec renaming ofInt->Uf
open Bool renaming and_eq_true->Th,eq_iff_iff->U6,false_or->XU,not_eq_true'->TW,not_false->YG,not_true->ak_,true_or->ag2
open Classical renaming byContradiction->Tu
open Eq renaming trans->VI
open Function renaming comp_def->YA
open Go renaming Addr->U2,CallKind->Xe,Code->T9,Deferred->UV,Event->Uq,Frame->Ua,FrameMode->U5,Func->YF,FuncId->TO,GStep->ZD,Goroutine->SH,IntKind->TV,Item->WT,Machine->ap_,MemOp->Wc,Oper->Tv,Operand->Tg,Program->SJ,ResultVar->UL,Trace->Uk,Value->SO,World->Tp,mark->ad',step->ad_
open Go.Conc renaming Deaf->UQ,Deaf_other->ate,Good->WZ,Knows->Wm,QuitsD->Y7,act?_of->af',casT_eq->Z1,crowd_pick->ZV,deaf_succ->aa',finishComm_recv->Yz,finishComm_send->af_,getElem?_stand->Yb,heard_old->Wq,knows_own->Ze,lt_size_of_getElem?->TG,mem_ofEvents->TL,mem_of_getElem?->XT,offersAt_of_not_blocked->UT,offersAt_parked_send->ZF,offersAt_ph->Zo,runT_crowd_spawn->aa_,seen_none->Z',served->T4,stepG_entry->ZE,stepG_same->Xd,stepG_value->atd,touch_of->US,woken_run->Ym
open Go.Conc.QuitsD renaming status->ZG
open Go.ConcN renaming le_sumTo->WB,sumTo_congr->Vl
open Go.Event renaming mute->WF
open Go.Extern.Atomic renaming casT->WU,loadT->X4,storeT->XS,update->XR
open Go.Extern.Race renaming marked->VH,none_->W7
open Go.Extern.Sync renaming semacquire->WE,semrelease->XQ
open Go.GStep renaming after->T1
open Go.Goroutine.mk renaming injEq->ae'
open Go.Instr renaming loadAt->XD,sureAddr->U_
open Go.IntKind renaming i64->SF,u32->ai',u64->TB,wrap->Xc
open Go.MemAct renaming ofEvent->Ts
open Go.MemOp renaming ofEvents->Ta
open Go.Obj renaming deferred->atm
open Go.Op renaming intArith->atl
open Go.Operand renaming const->atk,tmp->as_
open Go.Proofs.Tryz renaming f77->XN,prog->SC
open Go.Region renaming wanted->Tf
open Go.Result renaming ok->Yi
open Go.Sem renaming runT_eq->TC
open Go.Trace renaming g?->Wz
open Go.Value renaming bool->Xb,chan->XP,int->SG
open Go.World renaming cell?->Ux,frozen?->ZQ,setChan->We
open Int renaming toNat_natCast->Vw
open List renaming any_cons->YU,any_eq_true->UK,append_assoc->SD,append_nil->SY,cons_append->VA,drop->Ur,drop_eq_nil_of_le->TU,ext_getElem?->Yp,findIdx?_eq_none_iff->Yg,findIdx?_eq_some_iff_getElem->Xv,flatMap_append->VR,foldl_append->ZO,foldl_cons->UW,forall_mem_cons->Xg,getD_eq_getElem?_getD->SE,getElem?_append_left->SZ,getElem?_append_right->Tj,getElem?_drop->Um,getElem?_eq_getElem->SP,getElem?_eq_none->Uu,getElem?_eq_some_iff->SN,getElem?_map->To,getElem?_range->Xz,getElem?_set->UR,getElem?_set_ne->T5,getElem?_toArray->Ve,getElem_mem->VQ,getLast?_eq_some_getLast->XO,getLastD_eq_getLast?->Vh,getLast_mem->Zr,head?_append->WN,length_append->S9,length_cons->Uj,length_map->Tn,length_nil->UP,length_pos_iff->VL,length_singleton->T7,mapM_cons->T_,mapM_nil->UA,mapM_toArray->XZ,map_append->TF,map_cons->UU,mem_append->SS,mem_append_left->Te,mem_append_right->S4,mem_cons->SL,mem_flatMap->S7,mem_iff_getElem?->UO,mem_map->Tm,mem_of_getElem?->Ti,mem_range->TE,mem_replicate->Xy,mem_singleton->S5,mem_toArray->TJ,nil_append->UD,nodup_append->U4,nodup_nil->WM,nodup_range->WW,not_mem_nil->S0,range->SV,range_succ->Vk,replicate->TM,set_append_left->Wy,set_cons_succ->UB,set_cons_zero->TZ,set_set->W8,take->Un,take_add_one->VG,take_append_of_le_length->TA,take_length->TH,take_of_length_le->SX,take_succ_cons->VU,take_succ_eq_append_getElem->Wb
open List.cons renaming inj->Vu
open Nat renaming add_sub_cancel_left->U7,add_zero->UJ,eq_zero_or_pos->UX,le_refl->SQ,le_trans->UF,lt_of_lt_of_le->Tc,lt_succ_self->Uv,reduceAdd->SW,reduceEqDiff->Zy
open Option renaming bind_eq_bind->TP,bind_eq_some_iff->Td,getD_none->Vm,getD_some->S8,map_eq_some_iff->Tq,map_some->UM,pure_def->Ug
open Option.some renaming inj->VC,injEq->Tl
open Prod.mk renaming inj->W1,injEq->UZ
namespace Go.Gg
open Go.Conc Go.ConcN
section
variable {P:SJ}{n0:Nat}{W0:Tp}{V:View}{gs gs':Array SH}{w w':Tp}{sl:Option (Nat×Nat)}{t:Uk}{K:Nat->GS}{Im:cm}{ic:Nat}{p:Phase}{st st':Option dZ}
theorem NY{t:Uk}{g i j:Nat}(hi:t.g? i=some g)(hj:t.g? j=some g)(h:i<=j):Before t i j:=by
 rcases Nat.eq_or_lt_of_le h with rfl|h
 ·exact .inl rfl
 ·obtain⟨a,ha,rfl⟩:=Tq.1 hi;obtain⟨b,hb,hg⟩:=Tq.1 hj;exact .inr (.single (.inl ⟨h,by simp[Wz,ha,hb,hg]⟩))
theorem Inv.ad1(h:Inv P n0 W0 V gs w t K Im ic (some p) st)(aH:p.recv=true){n:Nat}{gi:SH}(aL:gs[ic]?=some gi)(hK:K ic=.acq n)(jk:sS P Im p.c p.Wg (UQ t ic) gi):f_ P n0 W0 V gs w sl t K Im ic (some p) st ic:=by
 obtain⟨s,hs,fU,iu,hm⟩:=h.mode aH;obtain⟨m1,m2,m3,m4,m5⟩:=hm.NG (.inr (by rw[hK];rfl));obtain⟨hd,bF,g',aP,n',dG⟩:=jk;have m8:∀e∈#[jI (.acquire (dO p.Wg))],e=jI (.acquire (dO p.Wg)):=λe he=>by simpa using he
 have Ry:g'.status=.running:=cL.running (λd g x=>x.2.1) dG;refine h.sM aH (k':=.look n') (s':=.got) fU aL (aP w) (by rw[hd];exact dG) (by rw[hK];exact FN Im) (λ_=>rfl) rfl (λj hj=>by rw[hK]at hj;cases hj) (.inl rfl) (λe he x hx=> ?_) (λe he=> ?_) (λe he a=> ?_) rfl (λ_ _ _=>rfl) rfl rfl rfl
  ?_ (.inl m1) ?_ (xz iu (by rw[hK];exact .inl (by simp[GS.cT])))
 ·rw[m8 e he]at hx;cases hx
 ·rw[m8 e he];exact h.low.2
 ·rw[m8 e he];simp[jI,Ts]
 ·unfold Mode;have e1:sumTo gs.size (λi=>(upd K ic (.look n') i).cnt)=0:=by rw[kM K (.look n') GS.cnt (by rw[hK];rfl)];exact m4
  have e2:sumTo gs.size (λi=>(upd K ic (.look n') i).late)=0:=by rw[kM K (.look n') GS.late (by rw[hK];rfl)];exact m3
  simp only[e1,e2,bu];exact .inr (.inr (.inr (.inr (.inr (.inl ⟨m1,trivial,trivial,trivial,.inl rfl⟩)))))
 ·have hr:Rest p.Wg t K ic st:=h.out.2.2.1;rw[hs,m2]at hr;rw[ofEvents_one];refine hr.app (λidx a ha hx=> .inr ?_) (λidx a _ ⟨op,au,_,hx⟩ _=> ?_)
  ·obtain⟨i,JI,eC,hx⟩:=hx;have aj6:=h.core.ti.norel;have own:t.g? idx=some ic->Wm (t++#[{g:=ic,fn:=gi.frame.fn,pos:=gi.frame.place,act:=.ofEvent (jI (.acquire (dO p.Wg)))}]) ic idx:=λe=>by
    obtain⟨op,ho,oH⟩:=Tq.1 e;rw[<- oH];exact(Ze ho).app _
   rcases hx with hx|rfl|⟨r,qK,hle⟩
   ·exfalso;have ajR:i<gs.size:=by
     obtain⟨op,ho,oH⟩:=Tq.1 JI;rw[<- oH];exact h.core.ti.gs op (XT ho)
    have gB:(K i).cnt=1:=by cases kz:K i<;>rw[kz]at hx<;>first|rfl|cases hx
    have hle:(K i).cnt<=sumTo gs.size λi=>(K i).cnt:=WB (f:=λi=>(K i).cnt) ajR;omega
   ·exact own JI
   ·exact ad2 qK.act qK.heard aj6 ⟨rfl,rfl⟩ hd (NY JI qK.g hle)
  ·simp only[TJ,SL,S0,or_false]at au;subst au;cases hx
theorem Rest.got{Wg:Nat}(hr:Rest Wg t K ic (some .got)){es:Array Uq}{fn:TO}{pos:String}{K':Nat->GS}:Rest Wg (t++Ta ic fn pos es) K' ic (some .got):=by
 refine hr.app (λidx a ha hx=> .inr (Knows.app _ hx)) (λidx a _ ⟨op,au,cR,_⟩ _=> .inr (.inr ?_));obtain⟨e,_,rfl⟩:=TL au;exact Ze cR
theorem Inv.amd(h:Inv P n0 W0 V gs w t K Im ic (some p) st)(aH:p.recv=true){n:Nat}{gi:SH}(aL:gs[ic]?=some gi)(hK:K ic=.look n)(jk:Hc P Im p.c (UQ t ic) gi):f_ P n0 W0 V gs w sl t K Im ic (some p) st ic:=by
 obtain⟨s,hs,fU,iu,hm⟩:=h.mode aH;obtain⟨m1,m2,m3,m4⟩:=hm.NH (.inl (by rw[hK];rfl));obtain⟨hd,bF,b,o,x,g',kX,aP,n',dG⟩:=jk;have ff:Sat ((K ic).view Im) w:=by have:=h.core.sat ic iu;rwa [show bA V Im K ic=(K ic).view Im by simp[bA];omega]at this
 have Jo:=ff.ab b o x (by rw[hK];exact kX);have hb:=ff.Ck (show ((K ic).view Im).ab b o=some x by rw[hK];exact kX);have m8:∀e∈(#[⟨.cell ⟨b,o,none⟩,false,false⟩]:Array Uq),e=⟨.cell ⟨b,o,none⟩,false,false⟩:=λe he=>by simpa using he
 have cJ:=h.blind fU;refine h.sM aH (k':=.close n') (s':=.got) fU aL (aP w Jo) (by rw[hd];exact dG) (by rw[hK];exact alY Im) (λ_=>rfl) rfl (λj hj=>by rw[hK]at hj;cases hj) (.inl rfl) (λe he y hy=> .inr (.inr ?_)) (λe he=> ?_) (λe he a=> ?_) rfl (λ_ _ _=>rfl) rfl rfl rfl
  ?_ (.inl m1) ?_ (xz iu (by rw[hK];exact .inl (by simp[GS.cT])))
 ·rw[m8 e he]at hy;cases hy;refine⟨λdK=> ?_,.inr (by rw[hK];show Im b o≠none;rw[kX];simp),rfl⟩;have e1:b=p.Wg:=dK;have:=cJ.2.2.2 o;rw[hK]at this;have e2:Im p.Wg o=none:=this;rw[<- e1,kX]at e2;cases e2
 ·rw[m8 e he];exact hb
 ·rw[m8 e he];simp[Ts]
 ·unfold Mode;have e1:sumTo gs.size (λi=>(upd K ic (.close n') i).cnt)=0:=by rw[kM K (.close n') GS.cnt (by rw[hK];rfl)];exact m4
  have e2:sumTo gs.size (λi=>(upd K ic (.close n') i).late)=0:=by rw[kM K (.close n') GS.late (by rw[hK];rfl)];exact m3
  simp only[e1,e2,bu];exact .inr (.inr (.inr (.inr (.inr (.inl ⟨m1,trivial,trivial,trivial,.inr rfl⟩)))))
 ·have hr:Rest p.Wg t K ic st:=h.out.2.2.1;rw[hs,m2]at hr;exact hr.got
theorem Inv.afL(h:Inv P n0 W0 V gs w t K Im ic (some p) st)(aH:p.recv=true){n:Nat}{gi:SH}(aL:gs[ic]?=some gi)(hK:K ic=.close n)(jk:Ha P p.c (UQ t ic) gi):f_ P n0 W0 V gs w sl t K Im ic (some p) st ic:=by
 obtain⟨s,hs,fU,iu,hm⟩:=h.mode aH;obtain⟨⟨nn,m1⟩,m2,m3,m4⟩:=hm.NH (.inr (by rw[hK];rfl));obtain⟨hd,bF,J6,g',aP,q,lO⟩:=jk;have ld:=aP w nn m1;have fl:∀e∈(#[⟨.obj p.c,false,true⟩,⟨.obj p.c,true,true⟩]:Array Uq),e=⟨.obj p.c,false,true⟩\/e=⟨.obj p.c,true,true⟩:=λe he=>by simpa using he
 have J9:∀j,0<j->j<gs.size->j≠ic->(K j).idx=none:=λj _ hj _=>by
  have hle:(K j).cnt<=sumTo gs.size λi=>(K i).cnt:=WB (f:=λi=>(K i).cnt) hj;exact GS.R4 (by omega)
 have JK:g'.status=.running\/g'.status=.finished:=ZG lO;have qz:p.c≠p.Wg:=h.phase.2.2.1;have Jp:=h.low.1;have eu:Ta ic gi.frame.fn gi.frame.place #[⟨.obj p.c,false,true⟩,⟨.obj p.c,true,true⟩]=#[{g:=ic,fn:=gi.frame.fn,pos:=gi.frame.place,act:=.ofEvent ⟨.obj p.c,false,true⟩},{g:=ic,fn:=gi.frame.fn,pos:=gi.frame.place,act:=.close p.c}]:=by simp[Ta,Ts]
 have g1:=qt (t:=t) (show (#[({g:=ic,fn:=gi.frame.fn,pos:=gi.frame.place,act:=.ofEvent ⟨.obj p.c,false,true⟩}:Wc),{g:=ic,fn:=gi.frame.fn,pos:=gi.frame.place,act:=.close p.c}]:Uk)[1]?=some _ from rfl);have nb:∀op∈(#[({g:=ic,fn:=gi.frame.fn,pos:=gi.frame.place,act:=.ofEvent ⟨.obj p.c,false,true⟩}:Wc),{g:=ic,fn:=gi.frame.fn,pos:=gi.frame.place,act:=.close p.c}]:Uk),still op.act:=by
  intro op au;simp only[TJ,SL,S0,or_false]at au;rcases au with rfl|rfl<;>exact⟨by simp[Ts],by simp[Ts]⟩
 have Qp:∃n,({w with heap:=w.heap.setIfInBounds p.c (.chan 0 #[] true nn nn false)}:Tp).heap[p.c]?=some (.chan 0 #[] true n n false):=⟨nn,by simp[Jp]⟩;refine h.sM aH (k':=.gone q) (s':=.shut (t.size+1)) fU aL ld (by rw[hd];exact lO) (by rw[hK];exact FO _) (λ_=>rfl) rfl (λj hj=>by rw[hK]at hj;cases hj) (.inl rfl) (λe he x hx=> .inl ?_) (λe he=> ?_) (λe he a=> ?_) (by simp) (λb hb _=>by simp[Wo,Ne.symm hb]) rfl rfl rfl
  ?_ (.inr ⟨J9,λg hg=>anq fU hg J6 JK Qp⟩) ?_ (xz iu (by rw[hK];exact .inl (by simp[GS.cT])))
 ·rcases fl e he with rfl|rfl
  ·cases hx;exact⟨rfl,rfl⟩
  ·cases hx
 ·rcases fl e he with rfl|rfl
  ·exact Jp
  ·exact Jp
 ·rcases fl e he with rfl|rfl<;>simp[Ts]
 ·unfold Mode;have e1:sumTo gs.size (λi=>(upd K ic (.gone q) i).cnt)=0:=by rw[kM K (.gone q) GS.cnt (by rw[hK];rfl)];exact m4
  have e2:sumTo gs.size (λi=>(upd K ic (.gone q) i).late)=0:=by rw[kM K (.gone q) GS.late (by rw[hK];rfl)];exact m3
  simp only[e1,e2,bu];obtain⟨n,hn⟩:=Qp;refine .inr (.inr (.inr (.inr (.inr (.inr ⟨⟨t.size+1,n,rfl,?_,?_,hn⟩,trivial,trivial,rfl⟩)))))
  ·rw[eu];exact af' g1
  ·rw[eu];exact heard_new (k:=1) rfl rfl (by rw[tp nb (by simp)];exact hd)
 ·have hr:Rest p.Wg t K ic st:=h.out.2.2.1;rw[hs,m2]at hr;rw[eu];refine hr.app (λidx a ha hx=> .inr (.inr (Knows.hb_new hx (by omega) g1 rfl))) (λidx a hi ⟨op,au,cR,_⟩ _=> .inr (.inr ?_));have hlt:idx<t.size+2:=by have:=TG cR;simpa using this
  have oH:op.g=ic:=by
   simp only[TJ,SL,S0,or_false]at au;rcases au with rfl|rfl<;>rfl
  exact NY (g:=ic) (by simp[Wz,cR,oH]) (by simp[Wz,g1]) (by omega)
structure Dq (P:SJ)(n0:Nat)(W0:Tp)(V:View)(gs:Array SH)(w:Tp)(sl:Option (Nat×Nat))(t:Uk)(Im:cm)(ic:Nat)(p:Phase)(st:Option dZ)(g:SH)(i:Nat):Prop where
 intro::
 met:∃gs' w' ops K' j sp S v ko Ow,runT P (crowd gs w sl) i=(.next (crowd gs' w' sl),ops)/\gs'.size=gs.size/\jV gs' (T4 g (.tuple #[v,.bool true]))/\p.Ss[j]?=some (sp::S)/\sp v ko Ow/\(∀b,V.own b≠none->Ow b=none)/\(∀b o,V.own b≠none->ko b o≠none->V.ab b o≠none)/\
  (∃w,Sat V w/\(∀b o x,ko b o=some x->w.cell? ⟨b,o,none⟩=some x)/\∀b x,Ow b=some x->w.heap[b]?=some x)/\
  Inv P n0 W0 (nf V ko Ow (.recv p.c p.Wg (p.Ss.set j S))) gs' w' (t++ops) K' Im ic (some {p with Ss:=p.Ss.set j S}) st
theorem Inv.apx(h:Inv P n0 W0 V gs w t K Im ic (some p) st)(aH:p.recv=true)(ij:V.deaf=0){g:SH}(hm:nw gs g p.c){i j:Nat}{gi:SH}{hh h':Ht}{Vi V₁:View}{c Wg:Nat}{sp:Spec}{S:List Spec}{v z:SO}{B:Nat->Bool}(hi:0<i)(aL:gs[i]?=some gi)
  (hK:K i=.work j hh Vi) (hg:dP Vi V₁) (hr:V₁.role=.work c Wg (sp::S)) (hd:V₁.deaf=0) (aP:stepG P false gi w=.comm gi #[scase c v z] true .send w #[])
  (xg:sp v V₁.ab (lx B V₁)) (hk:kR P h' (ln B V₁ (.work c Wg S)) (T4 gi undef)):Dq P n0 W0 V gs w sl t Im ic p st g i:=by
 have hlt:i<gs.size:=(SR.1 aL).1;have cY:=h.is i gi hi aL;simp only[hK,GS.is]at cY;obtain⟨bw,_,S',hS,iR⟩:=cY;rw[hg.role,iR]at hr;cases hr;have gB:(K i).cnt=1:=by rw[hK];rfl
 obtain⟨⟨n,gn⟩,kH⟩:=h.counted hi hlt gB;have eC:(i==0)=false:=by simp;omega
 obtain⟨g0,z0,h0,kD,io,mj⟩:=hm;have hp:partners (gs.setIfInBounds i ph) p.c false=[(0,0)]:=by
  have Ee:(gs.setIfInBounds i ph)[0]?=some (parked g0 #[rcase p.c z0] (.recv true)):=by rw[SU (by omega)];exact h0
  rw[partners_one Ee (λm x hm hx=> ?_),offersAt_parked_recv]
  ·simp
  ·rcases Yb gs i m x hx with⟨_,rfl⟩|⟨_,jl⟩
   ·exact Zo _ _
   ·exact aaS (h.is m x (by omega) jl) _
 have bF:=crowd_send_meets (P:=P) (sl:=sl) (i:=i) aL (by rw[eC];exact aP) gn (by omega) h0 hp;rw[Yz,af_]at bF;have lQ:(K i).view Im=Vi:=by rw[hK];rfl
 have aT:((gs.setIfInBounds 0 (T4 g0 (recvd true v true))).setIfInBounds i (T4 gi undef)).size=gs.size:=by simp
 have bh:UQ t i=0:=by rw[bw,<- hg.deaf,hd]
 have B8:Sat V₁ w:=by
  have:=h.core.sat i hlt;rw[show bA V Im K i=(K i).view Im by simp[bA];omega,lQ]at this;exact hg.sat w this
 have Kx:Sat V w:=by have:=h.core.sat 0 h.pos;rwa [show bA V Im K 0=V by simp[bA]]at this
 have tR:=h.met (gs':=(gs.setIfInBounds 0 (T4 g0 (recvd true v true))).setIfInBounds i (T4 gi undef)) (w':=w.setChan p.c 0 #[] false (n+1) (n+1) false) (gi:=gi) (h':=h') (V₁:=V₁) (S:=S) (sp:=sp) (B:=B) aH ij hi hlt (by rw[hK];rfl) (by rw[lQ];exact hg) (by rw[hg.role,iR]) hd bh hS hk aT
  (by rw[S_ (by simpa using hlt)]) (λm hm iy=>by rw[SU (Ne.symm hm),SU (by omega)])
  (u:=Ta i gi.frame.fn gi.frame.place #[]++#[{g:=i,fn:=gi.frame.fn,pos:=gi.frame.place,act:=.send p.c n},{g:=0,fn:=g0.frame.fn,pos:=g0.frame.place,act:=.recv p.c n 0},
    {g:=i,fn:=gi.frame.fn,pos:=gi.frame.place,act:=.sendDone p.c n},{g:=0,fn:=g0.frame.fn,pos:=g0.frame.place,act:=.recvDone p.c n}]) (s:=n) (by simp only[Ta,Y1,if_true,Xs];rfl) ⟨rfl,rfl⟩ ⟨rfl,rfl⟩ ⟨rfl,rfl⟩ ⟨rfl,rfl⟩
  (by simp[We]) (λb hb=>by simp[We,Wo,Ne.symm hb]) ⟨n+1,by simp[We,h.low.1]⟩ rfl rfl rfl
 refine⟨_,_,_,_,j,sp,S,v,V₁.ab,lx B V₁,bF,aT,⟨T4 g0 (recvd true v true),?_,rfl,?_,io,mj⟩,hS,xg,tR.1,tR.2.1,⟨w,Kx,B8.ab,λb x e=> ?_⟩,tR.2.2⟩
 ·rw[SU (by omega),S_ h.pos]
 ·simp only[T4,kD];rfl
 ·unfold lx at e;split at e
  ·exact B8.own b x e
  ·cases e
theorem Inv.aoE(h:Inv P n0 W0 V gs w t K Im ic (some p) st)(aH:p.recv=true)(ij:V.deaf=0){g:SH}{z:SO}(hm:jV gs g)(aP:stepG P true g w=.comm g #[rcase p.c z] true (.recv true) w #[])
  (hw:∃i j h' V₁ V₂ g1 v z1,0<i/\i<gs.size/\K i=.nk j h' V₁ V₂ g1 v z1):Dq P n0 W0 V gs w sl t Im ic p st g 0:=by
 obtain⟨g0,h0,hf0,kD,io,mj⟩:=hm;have kH:stepG P (0==0) g0 w=.comm g #[rcase p.c z] true (.recv true) w #[]:=by rw[<- aP];exact Xd kD io mj w
 obtain⟨i0,j0,a0,a1,a2,a3,a4,a5,b0,b1,b2⟩:=hw;have ajl:(K i0).cnt=1:=by rw[b2];rfl
 obtain⟨⟨n,gn⟩,Ff⟩:=h.counted b0 b1 ajl;have sC:gs[i0]?=some gs[i0]:=SK b1;have eI:∀j k,(j,k)∈partners (gs.setIfInBounds 0 ph) p.c true->k=0/\j≠0/\∃gj vj zj MC,gs[j]?=some (parked gj #[scase p.c vj zj] MC):=by
  intro j k hjk;obtain⟨x,hx,hk⟩:=mem_partners.1 hjk;rcases Yb gs 0 j x hx with⟨_,rfl⟩|⟨hj0,jl⟩
  ·rw[Zo]at hk;cases hk
  ·rcases GS.runs (h.is j x (by omega) jl)with hr|⟨hf,_⟩|⟨q,h',V1,V2,g1,v,z1,e⟩|⟨_,hb,ho⟩
   ·rw[UT (by rw[hr];simp)]at hk;cases hk
   ·rw[UT (by rw[hf];simp)]at hk;cases hk
   ·have:=h.is j x (by omega) jl;simp only[e,GS.is]at this;obtain⟨_,_,rfl,_⟩:=this;rw[ZF]at hk;simp at hk;exact⟨hk,hj0,g1,v,z1,.send,jl⟩
   ·have:offersAt x p.c true=[]:=(by unfold offersAt;simp[hb,ho]);rw[this]at hk;cases hk
 have aC:partners (gs.setIfInBounds 0 ph) p.c true≠[]:=by
  intro e;have fl:(i0,0)∈partners (gs.setIfInBounds 0 ph) p.c true:=by
   have:=h.is i0 _ b0 sC;simp only[b2,GS.is]at this;obtain⟨_,_,iQ,_⟩:=this;refine mem_partners.2 ⟨gs[i0],by rw[SU (by omega)];exact sC,?_⟩;rw[iQ,ZF];simp
  rw[e]at fl;cases fl
 obtain⟨i,gj,vj,zj,MC,d,eC,aL,bF⟩:=crowd_recv_meets_some (P:=P) (sl:=sl) h0 kH gn aC eI;have hi:0<i:=by omega
 have hlt:i<gs.size:=(SR.1 aL).1;obtain⟨j,h',V₁,V₂,g1,v,z1,hK⟩:∃j h' V₁ V₂ g1 v z1,K i=.nk j h' V₁ V₂ g1 v z1:=by
  rcases GS.runs (h.is i _ hi aL)with hr|⟨hf,_⟩|x|⟨_,_,ho⟩
  ·cases hr
  ·cases hf
  ·exact x
  ·cases ho
 have cY:=h.is i _ hi aL;simp only[hK,GS.is]at cY;obtain⟨bw,hd,iQ,hk,sp,S,B,hS,iR,xg,yG⟩:=cY;have efr:gj.frame=g1.frame/\gj.callers=g1.callers/\gj.dying=g1.dying/\vj=v/\zj=z1/\MC=.send:=by
  simp only[parked,ae',Tl,UZ]at iQ;obtain⟨e1,e2,_,e3,e4,e5⟩:=iQ;simp[scase]at e4;exact⟨e1,e2,e3,e4.1,e4.2,e5⟩
 obtain⟨e1,e2,e3,rfl,rfl,rfl⟩:=efr;have esv:T4 gj undef=T4 g1 undef:=by simp[T4,e1,e2,e3]
 rw[af_,Yz,esv]at bF;subst yG;have lQ:(K i).view Im=V₁:=by rw[hK];rfl
 have aT:((gs.setIfInBounds i (T4 g1 undef)).setIfInBounds 0 (T4 g (recvd true vj true))).size=gs.size:=by simp
 have B8:Sat V₁ w:=by
  have:=h.core.sat i hlt;rwa [show bA V Im K i=(K i).view Im by simp[bA];omega,lQ]at this
 have Kx:Sat V w:=by have:=h.core.sat 0 h.pos;rwa [show bA V Im K 0=V by simp[bA]]at this
 have tR:=h.met (gs':=(gs.setIfInBounds i (T4 g1 undef)).setIfInBounds 0 (T4 g (recvd true vj true))) (w':=(w.at d).setChan p.c 0 #[] false (n+1) (n+1) false) (gi:=g1) (h':=h') (V₁:=V₁) (S:=S) (sp:=sp) (B:=B) aH ij hi hlt (by rw[hK];rfl) (by rw[lQ];exact dP.refl _) iR hd bw hS hk aT
  (by rw[SU (by omega),S_ hlt]) (λm hm iy=>by rw[SU (by omega),SU (Ne.symm hm)])
  (u:=Ta 0 g0.frame.fn g0.frame.place #[]++#[{g:=i,fn:=gj.frame.fn,pos:=gj.frame.place,act:=.send p.c n},{g:=0,fn:=g.frame.fn,pos:=g.frame.place,act:=.recv p.c n 0},
    {g:=i,fn:=gj.frame.fn,pos:=gj.frame.place,act:=.sendDone p.c n},{g:=0,fn:=g.frame.fn,pos:=g.frame.place,act:=.recvDone p.c n}]) (s:=n) (by simp only[Ta,Y1,if_true,Xs];rfl) ⟨rfl,rfl⟩ ⟨rfl,rfl⟩ ⟨rfl,rfl⟩ ⟨rfl,rfl⟩
  (by simp[We,World.at]) (λb hb=>by simp[We,World.at,Wo,Ne.symm hb]) ⟨n+1,by simp[We,World.at,h.low.1]⟩ rfl rfl rfl
 refine⟨_,_,_,_,j,sp,S,vj,V₁.ab,lx B V₁,bF,aT,⟨T4 g (recvd true vj true),?_,rfl,rfl,rfl,rfl⟩,hS,xg,tR.1,tR.2.1,⟨w,Kx,B8.ab,λb x e=> ?_⟩,tR.2.2⟩
 ·rw[S_ (by simpa using h.pos)]
 ·unfold lx at e;split at e
  ·exact B8.own b x e
  ·cases e
end
section
variable {P:SJ}{n0:Nat}{W0:Tp}{V:View}{gs gs':Array SH}{w w':Tp}{sl:Option (Nat×Nat)}{t:Uk}{K:Nat->GS}{Im:cm}{ic:Nat}{ph:Option Phase}{p:Phase}{st st':Option dZ}
theorem Inv.sN(h:Inv P n0 W0 V gs w t K Im ic (some p) st){i n:Nat}{gi:SH}{Stop:Nat->SH->Prop}{mk:Nat->GS}(hi:0<i)(aL:gs[i]?=some gi)(hK:K i=mk n)(dG:cL P Stop n (UQ t i) gi)
  (qH:∀n d g,cL P Stop n d g->(mk n).is P p.c p.Wg Im p.Ss d g) (dK:∀n m,(mk n).shape=(mk m).shape) (KL:∀n m,(mk n).view Im=(mk m).view Im) (Kv:∀n,qb (mk n).cT (mk (n+1)).cT) (zf:∀d g,Stop d g->g.status=.running)
  (hgo:Stop (UQ t i) gi->f_ P n0 W0 V gs w sl t K Im ic (some p) st i):f_ P n0 W0 V gs w sl t K Im ic (some p) st i:=by
 cases n with
 |zero=>exact hgo dG
 |succ n=>
  rcases dG with hs|⟨hr,g',es,hm,aP,hs⟩
  ·exact hgo hs
  ·exact h.slip (k':=mk n) hi aL (aP w) hm (qH _ _ _ hs) (λx=>by rw[cL.running zf hs]at x;cases x) (by rw[hK];exact dK _ _) (by rw[hK];exact KL _ _) (λ_=>cL.running zf hs) (by rw[hK];exact Kv n)
theorem Inv.abZ(h:Inv P n0 W0 V gs w t K Im ic (some p) st){i n:Nat}{gi:SH}{Stop:Nat->SH->Prop}{mk:Nat->GS}(hi:0<i)(aL:gs[i]?=some gi)(hK:K i=mk n)(hW:∃x y,WgAt P p.Wg w x y)(dG:gJ P p.Wg Stop n (UQ t i) gi)
  (qH:∀n d g,gJ P p.Wg Stop n d g->(mk n).is P p.c p.Wg Im p.Ss d g) (dK:∀n m,(mk n).shape=(mk m).shape) (KL:∀n m,(mk n).view Im=(mk m).view Im) (Kv:∀n,qb (mk n).cT (mk (n+1)).cT) (zf:∀d g,Stop d g->g.status=.running)
  (hgo:Stop (UQ t i) gi->f_ P n0 W0 V gs w sl t K Im ic (some p) st i):f_ P n0 W0 V gs w sl t K Im ic (some p) st i:=by
 cases n with
 |zero=>exact hgo dG
 |succ n=>
  rcases dG with hs|⟨hr,g',es,hm,aP,hs⟩
  ·exact hgo hs
  ·exact h.slip (k':=mk n) hi aL (aP w _ _ hW.choose_spec.choose_spec) hm (qH _ _ _ hs) (λx=>by rw[gJ.running zf hs]at x;cases x) (by rw[hK];exact dK _ _) (by rw[hK];exact KL _ _) (λ_=>gJ.running zf hs) (by rw[hK];exact Kv n)
theorem Inv.other(h:Inv P n0 W0 V gs w t K Im ic ph st){g:SH}(oF:jV gs g\/∃p,ph=some p/\p.recv=true/\V.deaf=0/\nw gs g p.c){i:Nat}{gi:SH}(hi:0<i)(aL:gs[i]?=some gi)(bF:gi.status=.running):
  f_ P n0 W0 V gs w sl t K Im ic ph st i\/∃p,ph=some p/\Dq P n0 W0 V gs w sl t Im ic p st g i/\nw gs g p.c:=by
 have hlt:i<gs.size:=(SR.1 aL).1;have cY:=h.out.1 i gi hi aL;have gone:∀q,K i=.gone q->Y7 P q (UQ t i) gi->f_ P n0 W0 V gs w sl t K Im ic ph st i:=by
  intro q hK hq;cases q with
  |zero=>rw[hq.1]at bF;cases bF
  |succ q=>
   rcases hq with⟨hf,_⟩|⟨_,g',es,hm,aP,sw⟩
   ·rw[hf]at bF;cases bF
   ·refine h.slip (k':=.gone q) hi aL (aP w) hm ?_ (λx=>by rcases sw.status with e|e<;>rw[e]at x<;>cases x) (by rw[hK];rfl) (by rw[hK];rfl) (λx=>by rw[hK]at x;rcases x with x|x<;>cases x) (by rw[hK];exact .inr ⟨rfl,.inr ⟨rfl,Uv _⟩⟩);cases ph with
    |none=>exact⟨q,rfl,sw⟩
    |some p=>exact sw
 cases ph with
 |none=>
  obtain⟨q,hK,hq⟩:=cY;exact .inl (gone q hK hq)
 |some p=>
  have eN:(K i).is P p.c p.Wg Im p.Ss (UQ t i) gi:=cY;have pC:(K i).idx=none->(∀q,K i≠ .gone q)->p.recv=true:=λh1 h2=>by
   cases aH:p.recv with
   |true=>rfl
   |false=>
    have hx:=h.phase.2.2.2.2.2.2.2.2.2;rw[if_neg (by rw[aH];simp)]at hx;rcases hx.2.2.2.1 i hi hlt with x|⟨q,x⟩
    ·rw[h1]at x;cases x
    ·exact absurd x (h2 q)
  cases hK:K i with
  |gone q=>rw[hK]at eN;exact .inl (gone q hK eN)
  |nk j h' V1 V2 g0 v z=>
   rw[hK]at eN;obtain⟨_,_,rfl,_⟩:=eN;cases bF
  |work j hh Vi=>
   rw[hK]at eN;obtain⟨hd,KN,S,hS,iR⟩:=eN;have lQ:bA V Im K i=Vi:=(by simp[bA,hK,GS.view];omega);have ff:Sat Vi w:=(by have:=h.core.sat i hlt;rwa [lQ]at this);cases KN with
   |step G' W' E' V' hs hg h1 h2 h3=>
    exact .inl (h.acW hi aL hK (h1 w (hg.sat w ff)) (cV.q_ hg (h2 w (hg.sat w ff))) (h3 w (hg.sat w ff)) (.mk _ w))
   |send c Wg sp S1 v z B hs hg hr di ho h1 h2 h3=>
    have er:mD.work p.c p.Wg S=.work c Wg (sp::S1):=(by rw[<- iR,<- hg.role,hr]);cases er;rcases oF with hm|⟨p',y_,aH,ij,hm⟩
    ·exact .inl (h.art hm hi aL hK hg hr di (h1 w (hg.sat w ff)) h2 h3)
    ·cases y_;exact .inr ⟨p,rfl,h.apx aH ij hm hi aL hK hg hr di (h1 w (hg.sat w ff)) h2 h3,hm⟩
   |done c Wg hg hr di h1=>
    have er:mD.work p.c p.Wg S=.work c Wg []:=(by rw[<- iR,<- hg.role,hr]);cases er;refine .inl (h.release ?_ hi aL hK hg hr di h1);cases aH:p.recv with
    |true=>rfl
    |false=>
     have hx:=h.phase.2.2.2.2.2.2.2.2.2;rw[if_neg (by rw[aH];simp)]at hx;exact absurd rfl (hx.2.2.2.2.1 [] (Ti hS))
   |slip c Wg hs hg hr h1 h3=>
    have er:mD.work p.c p.Wg S=.work c Wg []:=(by rw[<- iR,<- hg.role,hr]);cases er;have aH:p.recv=true:=by
     cases aH:p.recv with
     |true=>rfl
     |false=>
      have hx:=h.phase.2.2.2.2.2.2.2.2.2;rw[if_neg (by rw[aH];simp)]at hx;exact absurd rfl (hx.2.2.2.2.1 [] (Ti hS))
    obtain⟨s,hW⟩:=h.afR aH hlt (by rw[hK];rfl);exact .inl (h.acW hi aL hK (h1 w s (hg.sat w ff) hW) (cV.q_ hg (cV.idle (hg.sat w ff))) h3 (Al.mk (λ_=>_) w))
  |add n=>
   rw[hK]at eN;have aH:=pC (by rw[hK];rfl) (λq=>by rw[hK];simp);exact .inl (h.sN (mk:=.add) hi aL hK eN (λ_ _ _ x=>x) (λ_ _=>rfl) (λ_ _=>rfl) (λn=> .inr ⟨rfl,.inr ⟨rfl,Uv _⟩⟩) (λ_ _ x=>x.2.1) (λhs=>h.ad6 aH hi aL hK hs))
  |load n=>
   rw[hK]at eN;have aH:=pC (by rw[hK];rfl) (λq=>by rw[hK];simp);exact .inl (h.sN (mk:=.load) hi aL hK eN (λ_ _ _ x=>x) (λ_ _=>rfl) (λ_ _=>rfl) (λn=> .inr ⟨rfl,.inr ⟨rfl,Uv _⟩⟩) (λ_ _ x=>x.2.1) (λhs=>h.amc aH hi aL hK hs))
  |store n=>
   rw[hK]at eN;have aH:=pC (by rw[hK];rfl) (λq=>by rw[hK];simp);exact .inl (h.sN (mk:=.store) hi aL hK eN (λ_ _ _ x=>x) (λ_ _=>rfl) (λ_ _=>rfl) (λn=> .inr ⟨rfl,.inr ⟨rfl,Uv _⟩⟩) (λ_ _ x=>x.2.1) (λhs=>h.aqi aH hi aL hK hs))
  |lX n=>
   rw[hK]at eN;have aH:=pC (by rw[hK];rfl) (λq=>by rw[hK];simp);exact .inl (h.sN (mk:=.lX) hi aL hK eN (λ_ _ _ x=>x) (λ_ _=>rfl) (λ_ _=>rfl) (λn=> .inr ⟨rfl,.inr ⟨rfl,Uv _⟩⟩) (λ_ _ x=>x.2.1) (λhs=>h.apw aH hi aL hK hs))
  |head k n=>
   rw[hK]at eN;have aH:=pC (by rw[hK];rfl) (λq=>by rw[hK];simp);have fE:i=ic:=h.rl hi (by rw[hK];rfl);exact .inl (h.sN (mk:=.head k) hi aL hK eN (λ_ _ _ x=>x) (λ_ _=>rfl) (λ_ _=>rfl) (λn=> .inr ⟨rfl,.inr ⟨rfl,Uv _⟩⟩) (λ_ _ x=>Qy x) (λhs=>by subst fE;exact h.ajH aH aL hK hs))
  |lG v n=>
   rw[hK]at eN;have aH:=pC (by rw[hK];rfl) (λq=>by rw[hK];simp);have fE:i=ic:=h.rl hi (by rw[hK];rfl);exact .inl (h.sN (mk:=.lG v) hi aL hK eN (λ_ _ _ x=>x) (λ_ _=>rfl) (λ_ _=>rfl) (λn=> .inr ⟨rfl,.inr ⟨rfl,Uv _⟩⟩) (λ_ _ x=>x.2.1) (λhs=>by subst fE;exact h.afG aH aL hK hs))
  |said n=>
   rw[hK]at eN;have aH:=pC (by rw[hK];rfl) (λq=>by rw[hK];simp);have fE:i=ic:=h.rl hi (by rw[hK];rfl);exact .inl (h.abZ (mk:=.said) hi aL hK (h.Ny aH (n:=n) (.inr (by rw[<- fE];exact hK))) eN (λ_ _ _ x=>x) (λ_ _=>rfl) (λ_ _=>rfl) (λn=> .inr ⟨rfl,.inr ⟨rfl,Uv _⟩⟩) (λ_ _ x=>x.2.1) (λhs=>by subst fE;exact h.apc aH aL hK hs))
  |gL n=>
   rw[hK]at eN;have aH:=pC (by rw[hK];rfl) (λq=>by rw[hK];simp);have fE:i=ic:=h.rl hi (by rw[hK];rfl);rcases eN with eN|⟨_,g1,rfl,_⟩
   ·exact .inl (h.sN (mk:=.gL) hi aL hK eN (λ_ _ _ x=> .inl x) (λ_ _=>rfl) (λ_ _=>rfl) (λn=> .inr ⟨rfl,.inr ⟨rfl,Uv _⟩⟩) (λ_ _ x=>x.2.1) (λhs=>by subst fE;exact h.afS aH aL hK hs))
   ·cases bF
  |last n=>
   rw[hK]at eN;have aH:=pC (by rw[hK];rfl) (λq=>by rw[hK];simp);have fE:i=ic:=h.rl hi (by rw[hK];rfl);exact .inl (h.sN (mk:=.last) hi aL hK eN (λ_ _ _ x=>x) (λ_ _=>rfl) (λ_ _=>rfl) (λn=> .inr ⟨rfl,.inr ⟨rfl,Uv _⟩⟩) (λ_ _ x=>x.2.1) (λhs=>by subst fE;exact h.alw aH aL hK hs))
  |acq n=>
   rw[hK]at eN;have aH:=pC (by rw[hK];rfl) (λq=>by rw[hK];simp);have fE:i=ic:=h.rl hi (by rw[hK];rfl);exact .inl (h.abZ (mk:=.acq) hi aL hK (h.Ny aH (n:=n) (.inl (by rw[<- fE];exact hK))) eN (λ_ _ _ x=>x) (λ_ _=>rfl) (λ_ _=>rfl) (λn=> .inr ⟨rfl,.inr ⟨rfl,Uv _⟩⟩) (λ_ _ x=>x.2.1) (λhs=>by subst fE;exact h.ad1 aH aL hK hs))
  |look n=>
   rw[hK]at eN;have aH:=pC (by rw[hK];rfl) (λq=>by rw[hK];simp);have fE:i=ic:=h.rl hi (by rw[hK];rfl);exact .inl (h.sN (mk:=.look) hi aL hK eN (λ_ _ _ x=>x) (λ_ _=>rfl) (λ_ _=>rfl) (λn=> .inr ⟨rfl,.inr ⟨rfl,Uv _⟩⟩) (λ_ _ x=>x.2.1) (λhs=>by subst fE;exact h.amd aH aL hK hs))
  |close n=>
   rw[hK]at eN;have aH:=pC (by rw[hK];rfl) (λq=>by rw[hK];simp);have fE:i=ic:=h.rl hi (by rw[hK];rfl);exact .inl (h.sN (mk:=.close) hi aL hK eN (λ_ _ _ x=>x) (λ_ _=>rfl) (λ_ _=>rfl) (λn=> .inr ⟨rfl,.inr ⟨rfl,Uv _⟩⟩) (λ_ _ x=>x.2.1) (λhs=>by subst fE;exact h.afL aH aL hK hs))
theorem Inv.awake(h:Inv P n0 W0 V gs w t K Im ic ph st){g:SH}(oF:jV gs g\/∃p,ph=some p/\p.recv=true/\V.deaf=0/\nw gs g p.c):∀x∈gs,awake x:=by
 intro x hx;obtain⟨i,hi⟩:=YH.1 hx;rcases UX i with rfl|eC
 ·rcases oF with⟨g0,h0,h1,_⟩|⟨p,_,_,_,g0,z,h0,_⟩
  ·rw[hi]at h0;cases h0;intro s;rw[h1];simp
  ·rw[hi]at h0;cases h0;intro s;simp[parked]
 ·have cY:=h.out.1 i x eC hi;intro s;cases ph with
  |none=>
   obtain⟨q,_,hq⟩:=cY;rcases hq.status with e|e<;>rw[e]<;>simp
  |some p=>
   rcases GS.runs (show (K i).is P p.c p.Wg Im p.Ss (UQ t i) x from cY)with e|⟨e,_⟩|⟨j,h',V1,V2,g1,v,z,e⟩|⟨_,e,_⟩
   ·rw[e];simp
   ·rw[e];simp
   ·have eN:(K i).is P p.c p.Wg Im p.Ss (UQ t i) x:=cY;rw[e]at eN;obtain⟨_,_,rfl,_⟩:=eN;simp[parked]
   ·rw[e];simp
end
def Ok (P:SJ)(Post:SO->Tp->Prop)(m:ap_)(t:Uk):Prop:=
 ∃M last o w' t',runNT P (M+1) m t=(.ended o w',t')/\runN P M m=.next last/\step P last=.ended o w'/\WZ P Post last o w' t'
section
variable {P:SJ}{Post:SO->Tp->Prop}
theorem Ok.step{m m':ap_}{t:Uk}{ops:Array Wc}(hs:stepT P m=(.next m',ops))(h:Ok P Post m' (t++ops)):Ok P Post m t:=by
 obtain⟨M,last,o,w',t',h1,h2,h3,h4⟩:=h;refine⟨M+1,last,o,w',t',?_,?_,h3,h4⟩
 ·rw[runNT,hs];exact h1
 ·have:ad_ P m=.next m':=by unfold ad_;rw[hs]
  rw[runN,this];exact h2
theorem Ok.end{m:ap_}{t:Uk}{o:Outcome}{w':Tp}{ops:Array Wc}(hs:stepT P m=(.ended o w',ops))(h:WZ P Post m o w' (t++ops)):Ok P Post m t:=by
 refine⟨0,m,o,w',t++ops,?_,rfl,?_,h⟩
 ·simp[runNT,hs]
 ·unfold ad_;rw[hs]
end
section
variable {P:SJ}{n0:Nat}{W0:Tp}{V:View}{gs gs':Array SH}{w w':Tp}{sl:Option (Nat×Nat)}{t:Uk}{K:Nat->GS}{Im:cm}{ic:Nat}{ph:Option Phase}{p:Phase}{st st':Option dZ}
theorem Inv.draw(h:Inv P n0 W0 V gs w t K Im ic ph st)(d:Nat):Inv P n0 W0 V gs (w.at d) t K Im ic ph st:=
 let⟨a,b,c,e⟩:=h.out
 Inv.mk' h.pos h.k0 h.d0 a (b.draw d) c (by cases ph<;>exact e)
theorem MK{f:Nat->Nat}:∀{N:Nat},0<sumTo N f->∃i,i<N/\0<f i
 |0,h=>by simp[sumTo]at h
 |N+1,h=>by
  by_cases hN:0<f N
  ·exact⟨N,by omega,hN⟩
  ·obtain⟨i,hi,hf⟩:=MK (N:=N) (f:=f) (by rw[sumTo]at h;omega);exact⟨i,by omega,hf⟩
theorem Inv.apI(h:Inv P n0 W0 V gs w t K Im ic (some p) st)(aH:p.recv=true)(ho:x7 w p.c)(se:Calm gs):∃i gi,0<i/\gs[i]?=some gi/\gi.status=.running:=by
 obtain⟨s,hs,fU,iu,hm⟩:=h.mode aH;have h0:=h.k0;have Bb:gs[ic]?=some gs[ic]:=SK iu;have asE:(K ic).is P p.c p.Wg Im p.Ss (UQ t ic) gs[ic]:=h.is ic _ fU Bb;have run:∀i x,0<i->gs[i]?=some x->(∀q,K i≠ .gone q)->(∀n,K i≠ .gL n)->x.status=.running:=by
  intro i x hi hx h1 h2;rcases GS.runs (show (K i).is P p.c p.Wg Im p.Ss (UQ t i) x from h.is i x hi hx)with e|⟨_,q,e⟩|⟨j,h',V1,V2,g1,v,z,e⟩|⟨⟨n,e⟩,_⟩
  ·exact e
  ·exact absurd e (h1 q)
  ·have cu:=h.is i x hi hx;simp only[e,GS.is]at cu;obtain⟨_,_,iQ,_⟩:=cu;have:=se i x hi hx (by rw[iQ];rfl);rw[iQ]at this;cases this
  ·exact absurd e (h2 n)
 have KX:(∀q,K ic≠ .gone q)->(∀n,K ic≠ .gL n)->∃i gi,0<i/\gs[i]?=some gi/\gi.status=.running:=λa b=>⟨ic,_,fU,Bb,run ic _ fU Bb a b⟩;have other:∀i,i<gs.size->(K i).cnt=1\/(K i).late=1->∃i gi,0<i/\gs[i]?=some gi/\gi.status=.running:=by
  intro i hi hc;have eC:0<i:=by
   rcases UX i with rfl|x
   ·rw[h0]at hc;rcases hc with c|c<;>cases c
   ·exact x
  exact⟨i,_,eC,SK hi,run i _ eC (SK hi) (λq e=>by rw[e]at hc;rcases hc with c|c<;>cases c) (λq e=>by rw[e]at hc;rcases hc with c|c<;>cases c)⟩
 have one:∀i,0<(K i).cnt->(K i).cnt=1:=λi hi=>by cases e:K i<;>rw[e]at hi<;>first|rfl|exact absurd hi (by simp[GS.cnt])
 have am8:∀i,0<(K i).late->(K i).late=1:=λi hi=>by cases e:K i<;>rw[e]at hi<;>first|rfl|exact absurd hi (by simp[GS.late])
 unfold Mode at hm;rcases hm with m|m|m|m|m|m|m
 ·rcases m.2.2.2.2.2 with⟨k,e,_⟩|⟨v,e,_⟩<;>exact KX (λq x=>by rw[x]at e;cases e) (λq x=>by rw[x]at e;cases e)
 ·obtain⟨i,hi,hc⟩:=MK (N:=gs.size) (f:=λi=>(K i).cnt) (by have:=m.2.2.2.1;omega);exact other i hi (.inl (one i hc))
 ·obtain⟨i,hi,hc⟩:=MK (N:=gs.size) (f:=λi=>(K i).late) (by have:=m.2.2.1;omega);exact other i hi (.inr (am8 i hc))
 ·exact⟨ic,_,fU,Bb,m.2.2.2.2.2.1 _ Bb⟩
 ·rcases m.2.2.2.2.2 with e|e<;>exact KX (λq x=>by rw[x]at e;cases e) (λq x=>by rw[x]at e;cases e)
 ·rcases m.2.2.2.2 with e|e<;>exact KX (λq x=>by rw[x]at e;cases e) (λq x=>by rw[x]at e;cases e)
 ·obtain⟨⟨_,n,_,_,_,aV⟩,_⟩:=m;obtain⟨n',ho⟩:=ho;rw[aV]at ho;simp at ho
theorem ry(V':View)(Im:cm)(K:Nat->GS):bA V' Im K=upd (bA V Im K) 0 V':=by
 funext j;by_cases hj:j=0
 ·subst hj;rw[bu];simp[bA]
 ·rw[aW _ _ hj];simp[bA,hj]
theorem ki:bA V Im K 0=V:=by simp[bA]
def uH (r:mD)(ph:Option Phase):Prop:=match r with
 |.plain=>ph=none
 |.fork c Wg Ss=>ph=some ⟨c,Wg,Ss,false⟩
 |.recv c Wg Ss=>ph=some ⟨c,Wg,Ss,true⟩
 |.work .. =>False
theorem Inv.amm(h:Inv P n0 W0 V gs w t K Im ic ph st){V':View}(g:dP V V')(hr:uH V.role ph):Inv P n0 W0 V' gs w t K Im ic ph st:=by
 obtain⟨cY,hc,mm,gp⟩:=h.out;refine Inv.mk' h.pos h.k0 (by rw[g.deaf];exact h.d0) cY ?_ mm ?_
 ·rw[ry (V:=V)];exact hc.ghost h.pos (by rw[ki];exact g)
 ·cases ph with
  |none=>exact gp
  |some p=>
   obtain⟨a1,a2,a3,a4,a5,a6,a7,a8,a9,bR⟩:=gp;refine⟨a1,a2,a3,a4,a5,a6,a7,a8,a9,?_⟩;split
   ·rename_i aH;rw[if_pos aH]at bR;have b:ja p V:=⟨bR.1.1,bR.1.2.1,bR.1.2.2.1,bR.1.2.2.2⟩;have b':=b.ghost g;exact⟨⟨b'.1,b'.2.1,b'.2.2.1,b'.2.2.2⟩,bR.2⟩
   ·rename_i aH;rw[if_neg aH]at bR;refine⟨g.chan _ _ ?_ bR.1,bR.2⟩;unfold uH at hr;split at hr
    ·cases hr
    ·cases hr;rename_i e;rw[e];rfl
    ·cases hr;exact absurd rfl aH
    ·exact hr.elim
theorem Inv.aao(h:Inv P n0 W0 V gs w t K Im ic ph st){g0 g':SH}{es:Array Uq}{V':View}(h0:gs[0]?=some g0)(s:cV V w V' w' es)(hr:uH V.role ph):
  Inv P n0 W0 V' ((gs.map (woken P g0 g' w')).setIfInBounds 0 g') w' (t++Ta 0 g0.frame.fn g0.frame.place es) K Im ic ph st:=by
 obtain⟨cY,hc,mm,gp⟩:=h.out;have aT:((gs.map (woken P g0 g' w')).setIfInBounds 0 g').size=gs.size:=by simp
 have B9:∀op∈Ta 0 g0.frame.fn g0.frame.place es,op.g=0:=λop au=>by obtain⟨e,_,rfl⟩:=TL au;rfl
 have iP:∀{u:Uk}{idx:Nat}{op:Wc},(t++u)[idx]?=some op->op.g=0->Wm (t++u) 0 idx:=λ{u idx op} a b=>by have:=Ze a;rwa [b]at this
 have Qo:∀p,ph=some p->w'.heap[p.c]?=w.heap[p.c]?:=by
  rintro p rfl
  obtain⟨a1,a2,a3,a4,a5,a6,a7,a8,a9,bR⟩:=gp;by_cases aH:p.recv=true
  ·rw[if_pos aH]at bR;exact s.frame _ a4 bR.1.1
  ·rw[if_neg aH]at bR;have dE:Sat V w:=(by have:=hc.sat 0 h.pos;rwa [ki]at this);have eJ:V.role.chan=some p.c:=by
    unfold uH at hr;split at hr
    ·cases hr
    ·cases hr;rename_i e;rw[e];rfl
    ·cases hr;exact absurd rfl aH
    ·exact hr.elim
   rw[s.sat.own _ _ (s.chan _ _ eJ bR.1),dE.own _ _ bR.1]
 refine Inv.mk' (by rw[aT];exact h.pos) h.k0 (by rw[Deaf_own,s.deaf,h.d0]) (λj x hj hx=> ?_) ?_ ?_ ?_
 ·rcases getElem?_next h.pos hx with⟨e,_⟩|⟨_,y,hy,rfl⟩
  ·omega
  ·rw[ate t (g:=j) (g':=0) (by omega) _ B9];have Cf:=cY j y hj hy;have JV:j<gs.size:=(SR.1 hy).1;cases ph with
   |none=>
    obtain⟨q,hq,oN⟩:=Cf;exact⟨q,hq,by rw[woken_quitsD oN];exact oN⟩
   |some p=>
    refine Sa ?_ Cf;rcases h.opens rfl with⟨n,x⟩|x
    ·exact .inl ⟨n,by rw[Qo p rfl];exact x⟩
    ·exact .inr (x.1 j hj JV)
 ·rw[aT,ry (V:=V)];refine hc.step h.pos (by rw[ki];exact s) (λe he x hx hs=> ?_) g0.frame.fn g0.frame.place;cases ph with
  |none=>exact hs.elim
  |some p=>
   obtain⟨a1,a2,a3,a4,a5,a6,a7,a8,a9,bR⟩:=gp;have po:=Iq (s.eT e he) hx;by_cases aH:p.recv=true
   ·exfalso;rw[if_pos aH]at bR;have b:ja p V:=⟨bR.1.1,bR.1.2.1,bR.1.2.2.1,bR.1.2.2.2⟩;rcases po.1 with y|⟨y,_⟩|y
    ·exact b.zx y.rd hs
    ·exact b.zx y hs
    ·exact y (abT a4 a5 hs)
   ·rw[if_neg aH]at bR;have iR:V.role.chan=some p.c/\V.role.group=some p.Wg:=by
     unfold uH at hr;split at hr
     ·cases hr
     ·cases hr;rename_i e;rw[e];exact⟨rfl,rfl⟩
     ·cases hr;exact absurd rfl aH
     ·exact hr.elim
    have jL:mH (some p) gs.size ic K 0:=by
     show iH p gs.size ic K 0;unfold iH;rw[if_neg aH];exact .inl rfl
    have BY:x.kind≠ .plain:=by
     intro hk;cases hl:x.loc with
     |cell a=>rw[hl]at hs;exact po.2.2 _ a iR.2 hl hs hk
     |obj r=>rw[hl]at hs;exact po.2.1 _ iR.1 (by rw[hl];exact congrArg _ hs)
     |_=>rw[hl]at hs;exact hs.elim
    cases hk:x.kind with
    |plain=>exact absurd hk BY
    |atomic=>exact .inl ⟨rfl,jL⟩
    |said=>exact .inr ⟨rfl,bR.2.1.symm,jL⟩
 ·have vD:∀idx a,t.size<=idx->(∃op∈Ta 0 g0.frame.fn g0.frame.place es,(t++Ta 0 g0.frame.fn g0.frame.place es)[idx]?=some op/\op.act.touch?=some a)->Wm (t++Ta 0 g0.frame.fn g0.frame.place es) 0 idx:=λidx a _ ⟨op,au,hi,_⟩=>iP hi (B9 op au);cases st with
  |none=>
   intro idx a ha hm;rcases z_ ha with fQ|⟨hi,x⟩
   ·obtain⟨op,au,_⟩:=US fQ;rcases mm idx a fQ hm with x|⟨x,y⟩|⟨_,z,_⟩
    ·exact .inl (x.app _)
    ·exact .inr (.inl ⟨x,λz=>y ((Wq (TG au)).1 z)⟩)
    ·cases z
   ·exact .inl (vD idx a hi x)
  |some s'=>
   exact mm.app (λidx a ha hx=> .inr (hx.app (by obtain⟨op,au,_⟩:=US ha;exact TG au) λj _ _ hj=> .inl hj)) (λidx a hi x _=> .inl (vD idx a hi x))
 ·cases ph with
  |none=>exact gp
  |some p=>
   obtain⟨a1,a2,a3,a4,a5,a6,a7,a8,a9,bR⟩:=gp;refine⟨a1,a2,a3,Tc a4 s.size,Tc a5 s.size,a6,a7,λj j' m b1 b2 b3 b4=>a8 j j' m b1 (aT▸b2) b3 (aT▸b4),λj S b1 b2=>by rw[aT];exact a9 j S b1 b2,?_⟩;split
   ·rename_i aH;rw[if_pos aH]at bR;obtain⟨c1,c2,c3,s',c4,c5⟩:=bR;have b:ja p V:=⟨c1.1,c1.2.1,c1.2.2.1,c1.2.2.2⟩;have b':=b.step s a4 a5;refine⟨⟨b'.1,b'.2.1,b'.2.2.1,b'.2.2.2⟩,c2,by rw[aT];exact c3,s',c4,?_⟩;rw[aT];refine c5.keep (λ_=>rfl) (Qo p rfl) (s.frame _ a5 b.2.2.1) λqL g hg=> ?_;rcases getElem?_next h.pos hg with⟨e,_⟩|⟨_,y,hy,rfl⟩
    ·omega
    ·rw[Ym (qL y hy)];exact qL y hy
   ·rename_i aH;rw[if_neg aH]at bR;have eJ:V.role.chan=some p.c:=by
     unfold uH at hr;split at hr
     ·cases hr
     ·cases hr;rename_i e;rw[e];rfl
     ·cases hr;exact absurd rfl aH
     ·exact hr.elim
    exact⟨s.chan _ _ eJ bR.1,bR.2.1,bR.2.2.1,by rw[aT];exact bR.2.2.2.1,bR.2.2.2.2.1,by rw[aT];exact bR.2.2.2.2.2⟩
end
theorem acI{x y:Wc}{k:Nat}(hx:x.act=.go k)(hy:y.act=.start):∀op∈(#[x,y]:Uk),op.act.touch?=none/\still op.act/\(∀B,op.act.low B)/\∀a,op.act≠ .mark (.release a):=by
 intro op au;simp only[TJ,SL,S0,or_false]at au;rcases au with rfl|rfl
 ·rw[hx];exact⟨rfl,⟨by simp,by simp⟩,λ_=>trivial,by simp⟩
 ·rw[hy];exact⟨rfl,⟨by simp,by simp⟩,λ_=>trivial,by simp⟩
theorem Oq{t:Uk}{N:Nat}(h:∀op∈t,op.g<N):UQ t N=0:=by
 have key:∀k,k<=t.size->t.deaf N k=0:=by
  intro k;induction k with
  |zero=>intro _;rfl
  |succ k ih=>
   intro hk;have hy:t[k]?=some t[k]:=SK (by omega);have aC:¬t[k].g=N:=(by have:=h t[k] (XV _);omega);rw[aa' hy,ih (by omega)];unfold deafStep;split<;>simp[aC]
 exact key _ (SQ _)
section
variable {VV:Nat->View}{N:Nat}{w:Tp}{t:Uk}{Sh:Loc->Prop}{act act':Nat->Prop}{ic j6 n0:Nat}{W0:Tp}
theorem Core.spawn(h:Core VV N w t Sh act ic n0 W0)(h0:0<N)(bh:UQ t 0=0){x y:Wc}(hx:x.g=0/\x.act=.go N)(hy:y.g=N/\y.act=.start){U:View}(hi:U.ab=(VV 0).ab)(ho:U.own=λ_=>none)
  (jL:∀i,act' i->act i\/(i=N/\act 0)) (fE:j6=ic\/(j6=N/\ic=0)):Core (upd VV N U) (N+1) w (t++#[x,y]) Sh act' j6 n0 W0:=by
 have jj:=acI hx.2 hy.2;have hdN:UQ t N=0:=Oq h.ti.gs;have hk:∀{idx},Wm t 0 idx->Wm (t++#[x,y]) N idx:=λ{idx} jl=>fork_knows hx hy bh hdN jl;have hsU:Sat U w:=⟨λb o v e=>(h.sat 0 h0).ab b o v (by rw[<- hi];exact e),λb x e=>by rw[ho]at e;cases e⟩;refine⟨λi cu=> ?_,λa b ha hb fC=> ?_,?_,h.tape,h.os,h.out,h.old,λi cu b hb=> ?_,h.n0⟩
 ·by_cases fe:i=N
  ·subst fe;rw[bu];exact hsU
  ·rw[aW _ _ fe];exact h.sat i (by omega)
 ·by_cases Qb:a=N
  ·subst Qb;rw[bu];intro q hq;rw[ho]at hq;exact absurd rfl hq
  ·rw[aW _ _ Qb];by_cases Qi:b=N
   ·subst Qi;rw[bu];intro q hq;refine⟨by rw[ho],λo hu=> ?_⟩;rw[hi]at hu;by_cases yJ:a=0
    ·subst yJ;exact hu
    ·exact(h.dD a 0 (by omega) h0 yJ q hq).2 o hu
   ·rw[aW _ _ Qi];exact h.dD a b (by omega) (by omega) fC
 ·refine h.ti.mute (λop au=>(jj op au).1) (λop au=>(jj op au).2.2.1 _) (λop au=> ?_) (by omega) (λop au=>(jj op au).2.2.2) (λi cu l hl idx a ha gk qT=> ?_) (λi cu l hl idx a ha gk=> ?_) (λidx a ha dK=>⟨λhp i cu=> ?_,λhp=> ?_⟩)
  ·simp only[TJ,SL,S0,or_false]at au;rcases au with rfl|rfl
   ·omega
   ·omega
  ·obtain⟨_,cG,mX⟩:=hl;by_cases fe:i=N
   ·subst fe;rw[bu]at cG;have:gw (VV 0) l:=by
     cases l with
     |cell a'=>rcases cG with z|z;exact absurd (by rw[ho]) z;exact .inr (by rw[<- hi];exact z)
     |obj r=>exact absurd (by rw[ho]) cG
     |_=>exact cG.elim
    exact hk (h.ti.kr 0 h0 l ⟨h0,this,mX⟩ idx a ha gk qT)
   ·rw[aW _ _ fe]at cG;exact(h.ti.kr i (by omega) l ⟨by omega,cG,mX⟩ idx a ha gk qT).app _
  ·obtain⟨_,cG,mX⟩:=hl;by_cases fe:i=N
   ·subst fe;rw[bu]at cG;exfalso;cases l with
    |cell a'=>exact cG.1 (by rw[ho])
    |obj r=>exact cG (by rw[ho])
    |_=>exact cG.elim
   ·rw[aW _ _ fe]at cG;exact(h.ti.kw i (by omega) l ⟨by omega,cG,mX⟩ idx a ha gk).app _
  ·have:=h.ti.sp idx a ha dK;rcases jL i cu with z|⟨rfl,z⟩
   ·exact(this.1 hp i z).app _
   ·exact hk (this.1 hp 0 z)
  ·have:=h.ti.sp idx a ha dK;rcases fE with rfl|⟨rfl,rfl⟩
   ·exact(this.2 hp).app _
   ·exact hk (this.2 hp)
 ·by_cases fe:i=N
  ·subst fe;rw[bu,ho]
  ·rw[aW _ _ fe];exact h.iU i (by omega) b hb
end
section
variable {P:SJ}{n0:Nat}{W0:Tp}{V:View}{gs gs':Array SH}{w w':Tp}{sl:Option (Nat×Nat)}{t:Uk}{K:Nat->GS}{Im:cm}{ic:Nat}{ph:Option Phase}{p:Phase}{st st':Option dZ}
theorem GS.acS{k:GS}(h:k.mL=false)(Im ko:cm):k.view ko=k.view Im:=by cases k<;>first|rfl|cases h
theorem GS.ak5{k:GS}{c Wg d:Nat}{Im ko:cm}{Ss Ns:List (List Spec)}{g:SH}(h:k.mL=false)(hS:∀(j:Nat) S,Ss[j]?=some S->Ns[j]?=some S)(hk:k.is P c Wg Im Ss d g):k.is P c Wg ko Ns d g:=by
 cases k with
 |work j hh V=>obtain⟨a,b,S,e,f⟩:=hk;exact⟨a,b,S,hS _ _ e,f⟩
 |nk j hh V V' g0 v z=>obtain⟨a,b,c,d,sp,S,B,e,f⟩:=hk;exact⟨a,b,c,d,sp,S,B,hS _ _ e,f⟩
 |gone q=>exact hk
 |add n=>exact hk
 |load n=>exact hk
 |store n=>exact hk
 |lX n=>exact hk
 |head k n=>cases h
 |lG k n=>cases h
 |said n=>cases h
 |gL n=>cases h
 |last n=>cases h
 |acq n=>cases h
 |look n=>cases h
 |close n=>cases h
theorem Inv.spawn(h:Inv P n0 W0 V gs w t K Im ic (some p) st)(aH:p.recv=false)(ij:V.deaf=0){g' child:SH}{x y:Wc}(hx:x.g=0/\x.act=.go gs.size)(hy:y.g=gs.size/\y.act=.start){V':View}{p':Phase}{ko:cm}{j6:Nat}{k':GS}(hc:p'.c=p.c)(yH:p'.Wg=p.Wg)
  (py:l8 V' V) (tL:V'.deaf=V.deaf) (pH:(k'.view ko).ab=V.ab) (hvo:(k'.view ko).own=λ_=>none) (hSs:∀(j:Nat) S,p.Ss[j]?=some S->p'.Ss[j]?=some S) (BA:k'.is P p.c p.Wg ko p'.Ss 0 child)
  (jL:∀i,i<gs.size->iH p' (gs.size+1) j6 (upd K gs.size k') i->iH p gs.size ic K i) (fE:j6=ic\/j6=gs.size)
  (B0:x8 P n0 V' ((gs.setIfInBounds 0 g').push child) w (t++#[x,y]) (upd K gs.size k') ko j6 (some p') (some .early)):
  Inv P n0 W0 V' ((gs.setIfInBounds 0 g').push child) w (t++#[x,y]) (upd K gs.size k') ko j6 (some p') (some .early):=by
 obtain⟨cY,gC,mm,gp⟩:=h.out;obtain⟨a1,a2,a3,a4,a5,a6,a7,a8,a9,bR⟩:=gp;rw[if_neg (by rw[aH];simp)]at bR;obtain⟨c1,c2,c3,c4,c5,c6⟩:=bR;have aT:((gs.setIfInBounds 0 g').push child).size=gs.size+1:=by simp
 have jj:=acI hx.2 hy.2;have bw:∀i,UQ (t++#[x,y]) i=UQ t i:=λi=>Deaf_still λop au=>(jj op au).2.1;have B1:=h.pos;have bh:UQ t 0=0:=by rw[h.d0,ij]
 have aV:∀i,0<i->(K i).mL=false:=λi hi=>by
  cases e:(K i).mL with
  |false=>rfl
  |true=>have:=h.rl hi e;omega
 have ai0:mH (some p) gs.size ic K 0:=by
  show iH p gs.size ic K 0;unfold iH;rw[if_neg (by rw[aH];simp)];exact .inl rfl
 have wY:=gC.spawn (act':=mH (some p') (gs.size+1) j6 (upd K gs.size k')) (j6:=j6) B1 bh hx hy (U:=k'.view ko) (by rw[ki];exact pH) hvo (λi hi=>by
   by_cases fe:i<gs.size
   ·exact .inl (jL i fe hi)
   ·refine .inr ⟨?_,ai0⟩;have cu:iH p' (gs.size+1) j6 (upd K gs.size k') i:=hi;unfold iH at cu;split at cu<;>omega) (fE.imp id λe=>⟨e,c2⟩)
 have ajq:=(wY.less (i:=0) (V':=V') (by omega) (by rw[aW _ _ (by omega),ki];exact py)).congr (Dt:=bA V' ko (upd K gs.size k')) λi hi=>by
  by_cases eC:i=0
  ·subst eC;rw[bu];simp[bA]
  ·rw[aW _ _ eC];by_cases fe:i=gs.size
   ·subst fe;rw[bu];simp[bA,eC,bu]
   ·rw[aW _ _ fe];simp only[bA,eC,if_false,aW _ _ fe];exact GS.acS (aV i (by omega)) _ _
 refine Inv.mk' (by omega) (by rw[aW _ _ (by omega)];exact h.k0) (by rw[bw,tL];exact h.d0) (λi z hi hz=> ?_) ?_ ?_ B0
 ·rw[bw];show (upd K gs.size k' i).is P p'.c p'.Wg ko p'.Ss _ z;rw[hc,yH];by_cases fe:i=gs.size
  ·subst fe;rw[bu,Oq gC.ti.gs];have:z=child:=by
    rw[show gs.size=(gs.setIfInBounds 0 g').size by simp]at hz;rw[Array.getElem?_push_size]at hz;exact(VC hz).symm
   rw[this];exact BA
  ·have asC:i<gs.size:=(by have:=(SR.1 hz).1;omega);rw[aW _ _ fe];rw[Xj,if_neg (by simp;omega),SU (by omega)]at hz;exact GS.ak5 (aV i hi) hSs (cY i z hi hz)
 ·rw[aT];have e:rj (some p')=rj (some p):=by show qe p'.c p'.Wg=qe p.c p.Wg;rw[hc,yH]
  rw[e];exact ajq
 ·have hr:Rest p.Wg t K ic st:=mm;rw[c3]at hr;show Rest p'.Wg _ _ _ _;rw[yH];intro idx a ha hm;have fQ:=Aa (λop au=>(jj op au).1) ha;obtain⟨op,au,_⟩:=US fQ;have hlt:=TG au;rcases hr idx a fQ hm with z|⟨z1,z2⟩|⟨s,hs,jl⟩
  ·exact .inl (z.app _)
  ·exact .inr (.inl ⟨z1,λz=>z2 ((Wq hlt).1 z)⟩)
  ·cases hs;obtain⟨i,hg,hi,hz⟩:=jl;have fe:i<gs.size:=by
    obtain⟨op',aY,oH⟩:=Tq.1 hg;rw[<- oH];exact gC.ti.gs op' (XT aY)
   refine .inr (.inr ⟨.early,rfl,i,by rw[g?_old hlt];exact hg,hi,?_⟩);rcases hz with hz|hz|⟨r,hz,hle⟩
   ·exact .inl (by rw[aW _ _ (by omega)];exact hz)
   ·omega
   ·exact .inr (.inr ⟨r,hz.app,hle⟩)
theorem Sat.K0{c:Nat}{a:Nat}{x:Bool}{y z:Nat}{u:Bool}{DR:Array SO}(h:Sat V w)(hc:w.heap[c]?=some (.chan a DR x y z u))(o:Nat):V.ab c o=none:=by
 cases e:V.ab c o with
 |none=>rfl
 |some v=>have:=h.ab c o v e;simp[Ux,hc]at this
theorem Inv.aaA(h:Inv P n0 W0 V gs w t K Im ic (some p) st)(aH:p.recv=false){i:Nat}(hi:0<i):(K i).mL=false:=by
 have hx:=h.phase.2.2.2.2.2.2.2.2.2;rw[if_neg (by rw[aH];simp)]at hx;cases e:(K i).mL with
 |false=>rfl
 |true=>have:=h.rl hi e;have:=hx.2.1;omega
theorem Inv.Ec(h:Inv P n0 W0 V gs w t K Im ic (some p) st)(aH:p.recv=false)(ij:V.deaf=0){g' child:SH}{x y:Wc}(hx:x.g=0/\x.act=.go gs.size)(hy:y.g=gs.size/\y.act=.start){hh:Ht}{sp:Spec}{S:List Spec}(hlen:p.Ss.length<4)(nI:∀o,V.ab p.Wg o=none)
  (BA:kR P hh {ab:=V.ab,own:=λ_=>none,deaf:=0,role:=.work p.c p.Wg (sp::S)} child):
  Inv P n0 W0 {V with role:=.fork p.c p.Wg (p.Ss++[sp::S])} ((gs.setIfInBounds 0 g').push child) w (t++#[x,y]) (upd K gs.size (.work p.Ss.length hh {ab:=V.ab,own:=λ_=>none,deaf:=0,role:=.work p.c p.Wg (sp::S)})) Im ic
   (some {p with Ss:=p.Ss++[sp::S]}) (some .early):=by
 obtain⟨cY,gC,mm,gp⟩:=h.out;obtain⟨a1,a2,a3,a4,a5,a6,a7,a8,a9,bR⟩:=gp;rw[if_neg (by rw[aH];simp)]at bR;obtain⟨c1,c2,c3,c4,c5,c6⟩:=bR;have aT:((gs.setIfInBounds 0 g').push child).size=gs.size+1:=by simp
 have dE:Sat V w:=by have:=gC.sat 0 h.pos;rwa [ki]at this
 have yP:=dE.K0 (dE.own _ _ c1);have cR:∀i j,0<i->i<gs.size->(K i).idx=some j->j<p.Ss.length:=λi j hi hlt e=>by
  have QI:=cY i _ hi (SK hlt);have JP:(K i).is P p.c p.Wg Im p.Ss (UQ t i) gs[i]:=QI;cases kz:K i<;>rw[kz]at e JP<;>simp[GS.idx]at e
  ·subst e;obtain⟨_,_,S,e,_⟩:=JP;exact(SN.1 e).1
  ·subst e;obtain⟨_,_,_,_,_,_,_,e,_⟩:=JP;exact(SN.1 e).1
 refine h.spawn aH ij hx hy rfl rfl ⟨λ_=> .inr rfl,λ_ _=> .inr rfl,λ_ _ _=>rfl⟩ rfl rfl rfl (λj S' e=> ?_) ⟨rfl,BA,sp::S,by simp,rfl⟩ (λi hi jL=> ?_) (.inl rfl) ?_
 ·show (p.Ss++[sp::S])[j]?=some S';rw[SZ (SN.1 e).1];exact e
 ·unfold iH at jL⊢;rw[if_neg (by show ¬p.recv=true;rw[aH];simp)]at jL;rw[if_neg (by rw[aH];simp)];rw[aW _ _ (by omega)]at jL;exact jL.imp id λz=>⟨hi,z.2⟩
 ·refine⟨a1,a2,a3,a4,a5,by simp only[S9,Uj,UP];omega,λi hi=> ?_,λi i' j b1 b2 b3 b4 b5 b6=> ?_,λj S' b1 b2=> ?_,?_⟩
  ·by_cases fe:i=gs.size
   ·subst fe;rw[bu];exact⟨rfl,yP,rfl,nI,λe=>by cases e⟩
   ·rw[aW _ _ fe];exact a7 i hi
  ·rw[aT]at b2 b4;by_cases e1:i=gs.size
   ·by_cases e2:i'=gs.size
    ·omega
    ·rw[aW _ _ e2]at b6;have:=cR i' j b3 (by omega) b6;subst e1;rw[bu]at b5;simp only[GS.idx,Tl]at b5;omega
   ·rw[aW _ _ e1]at b5;by_cases e2:i'=gs.size
    ·have:=cR i j b1 (by omega) b5;subst e2;rw[bu]at b6;simp only[GS.idx,Tl]at b6;omega
    ·rw[aW _ _ e2]at b6;exact a8 i i' j b1 (by omega) b3 (by omega) b5 b6
  ·rw[aT];by_cases hj:j<p.Ss.length
   ·have:p.Ss[j]?=some S':=by
     have HL:(p.Ss++[sp::S])[j]?=some S':=b1;rwa [SZ hj]at HL
    obtain⟨i,e1,e2,e3⟩:=a9 j S' this b2;exact⟨i,e1,by omega,by rw[aW _ _ (by omega)];exact e3⟩
   ·have gY:j=p.Ss.length:=by
     have:=(SN.1 (show (p.Ss++[sp::S])[j]?=some S' from b1)).1;simp at this;omega
    exact⟨gs.size,h.pos,by omega,by rw[bu,gY];rfl⟩
  ·show if p.recv=true then _ else _;rw[if_neg (by rw[aH];simp)];refine⟨c1,c2,rfl,λi b1 b2=> ?_,λS' hS'=> ?_,?_⟩
   ·rw[aT]at b2;by_cases fe:i=gs.size
    ·subst fe;rw[bu];exact .inl rfl
    ·rw[aW _ _ fe];exact c4 i b1 (by omega)
   ·rcases SS.1 hS' with z|z
    ·exact c5 S' z
    ·simp at z;subst z;simp
   ·rw[aT,sumTo,bu,S9,<- c6];rw[Vl (g:=λi=>(K i).cnt) λi hi=>by rw[aW _ _ (by omega)]];rfl
theorem Inv.Eb(h:Inv P n0 W0 V gs w t K Im ic (some p) st)(aH:p.recv=false)(ij:V.deaf=0){g' child:SH}{x y:Wc}(hx:x.g=0/\x.act=.go gs.size)(hy:y.g=gs.size/\y.act=.start){n:Nat}
  (yH:V.own p.Wg=some (wgBlock P (((p.Ss.length:Nat):Int)* KK) 0)) (nI:∀o,V.ab p.Wg o=none) (BA:cL P (ek P V.ab p.c p.Wg 5) n 0 child):
  Inv P n0 W0 {V with own:=λb=>if b=p.c\/b=p.Wg then none else V.own b,role:=.recv p.c p.Wg p.Ss} ((gs.setIfInBounds 0 g').push child) w (t++#[x,y]) (upd K gs.size (.head 5 n)) V.ab gs.size (some {p with recv:=true}) (some .early):=by
 obtain⟨cY,gC,mm,gp⟩:=h.out;obtain⟨a1,a2,a3,a4,a5,a6,a7,a8,a9,bR⟩:=gp;rw[if_neg (by rw[aH];simp)]at bR;obtain⟨c1,c2,c3,c4,c5,c6⟩:=bR;have aT:((gs.setIfInBounds 0 g').push child).size=gs.size+1:=by simp
 have dE:Sat V w:=by have:=gC.sat 0 h.pos;rwa [ki]at this
 have yP:=dE.K0 (dE.own _ _ c1);have B1:=h.pos;refine h.spawn aH ij hx hy rfl rfl ⟨λb=> ?_,λ_ _=> .inr rfl,λ_ _ _=>rfl⟩ rfl rfl rfl (λj S' e=>e) BA (λi hi jL=> ?_) (.inr rfl) ?_
 ·by_cases e:b=p.c\/b=p.Wg
  ·exact .inl (by simp only[e,if_true])
  ·exact .inr (by simp only[e,if_false])
 ·unfold iH at jL⊢;rw[if_pos rfl]at jL;rw[if_neg (by rw[aH];simp)];rw[aW _ _ (by omega)]at jL;obtain⟨z1,_,z2⟩:=jL;rcases c4 i z1 hi with z|⟨q,z⟩
  ·exact .inr ⟨hi,z⟩
  ·exfalso;rw[z]at z2;rcases z2 with z2|z2|z2|z2
   ·cases z2
   ·omega
   ·cases z2
   ·cases z2
 ·refine⟨a1,a2,a3,a4,a5,a6,λi hi=> ?_,λi i' j b1 b2 b3 b4 b5 b6=> ?_,λj S' b1 b2=> ?_,?_⟩
  ·by_cases fe:i=gs.size
   ·subst fe;rw[bu];exact⟨rfl,yP,rfl,nI,λ_=>rfl⟩
   ·rw[aW _ _ fe,GS.acS (h.aaA aH hi) Im];have:=a7 i hi;exact⟨this.1,this.2.1,this.2.2.1,this.2.2.2.1,λe=>by rw[h.aaA aH hi]at e;cases e⟩
  ·rw[aT]at b2 b4;by_cases e1:i=gs.size
   ·subst e1;rw[bu]at b5;cases b5
   ·by_cases e2:i'=gs.size
    ·subst e2;rw[bu]at b6;cases b6
    ·rw[aW _ _ e1]at b5;rw[aW _ _ e2]at b6;exact a8 i i' j b1 (by omega) b3 (by omega) b5 b6
  ·obtain⟨i,e1,e2,e3⟩:=a9 j S' b1 b2;exact⟨i,e1,by omega,by rw[aW _ _ (by omega)];exact e3⟩
  ·show if true=true then _ else _;rw[if_pos rfl];refine⟨⟨by simp,yP,by simp,nI⟩,by omega,by rw[aT];omega,.early,rfl,?_⟩;rw[aT];have e1:sumTo (gs.size+1) (λi=>(upd K gs.size (.head 5 n) i).cnt)=p.Ss.length:=by
    rw[sumTo,bu,<- c6];rw[Vl (g:=λi=>(K i).cnt) λi hi=>by rw[aW _ _ (by omega)]];rfl
   have e2:sumTo (gs.size+1) (λi=>(upd K gs.size (.head 5 n) i).late)=0:=by
    have hz:∀N,sumTo N (λ_=>0)=0:=λN=>(by induction N with|zero=>rfl|succ N ih=>simp[sumTo,ih]);rw[sumTo,bu];rw[Vl (g:=λ_=>0) λi hi=> ?_,hz]
    ·rfl
    ·rw[aW _ _ (by omega)];rcases UX i with rfl|eC
     ·rw[h.k0];rfl
     ·rcases c4 i eC hi with z|⟨q,z⟩
      ·cases kz:K i<;>rw[kz]at z<;>first|rfl|cases z
      ·rw[z];rfl
   unfold Mode;simp only[e1,e2,bu];exact .inl ⟨⟨0,dE.own _ _ c1⟩,trivial,trivial,a6,dE.own _ _ yH,.inl ⟨5,rfl,by omega⟩⟩
theorem Inv.begin(h:Inv P n0 W0 V gs w t K Im ic none st){c Wg:Nat}(aC:c≠Wg)(hc:V.own c=some (.chan 0 #[] false 0 0 false)) (hW:V.own Wg≠none) (nI:∀o,V.ab Wg o=none):
  Inv P n0 W0 {V with role:=.fork c Wg []} gs w t (λi=>if i<gs.size then K i else .gone 0) Im 0 (some ⟨c,Wg,[],false⟩) (some .early):=by
 obtain⟨cY,gC,mm,gp⟩:=h.out;have dE:Sat V w:=by have:=gC.sat 0 h.pos;rwa [ki]at this
 have yP:=dE.K0 (dE.own _ _ hc);have si:∀i,(∃q,(if i<gs.size then K i else .gone 0)=GS.gone q):=λi=>by
  by_cases hi:i<gs.size
  ·rw[if_pos hi];rcases UX i with rfl|eC
   ·exact⟨0,h.k0⟩
   ·obtain⟨q,hq,_⟩:=cY i _ eC (SK hi);exact⟨q,hq⟩
  ·rw[if_neg hi];exact⟨0,rfl⟩
 have gN:∀{b x},V.own b=some x->n0<=b/\b<w.heap.size:=λ{b x} e=>by
  refine⟨?_,dE.lt e⟩;apply Nat.le_of_not_lt;intro hb;have:=gC.iU 0 h.pos b hb;rw[ki,e]at this;cases this
 obtain⟨xW,RU⟩:∃x,V.own Wg=some x:=by cases e:V.own Wg with|none=>exact absurd e hW|some x=>exact⟨x,rfl⟩
 have lQ:∀i,0<i->((if i<gs.size then K i else .gone 0).view Im)=noView:=λi _=>by obtain⟨q,e⟩:=si i;rw[e];rfl
 refine Inv.mk' h.pos (by rw[if_pos h.pos];exact h.k0) h.d0 (λi x hi hx=> ?_) ?_ ?_ ?_
 ·have hlt:i<gs.size:=(SR.1 hx).1;obtain⟨q,hq,hy⟩:=cY i x hi hx;show (if i<gs.size then K i else .gone 0).is P c Wg Im [] _ x;rw[if_pos hlt,hq];exact hy
 ·have bf:Core (bA {V with role:=.fork c Wg []} Im (λi=>if i<gs.size then K i else .gone 0)) gs.size w t (rj none) (mH none gs.size ic K) ic n0 W0:=by
   refine(gC.role (i:=0) (V':={V with role:=.fork c Wg []}) h.pos (by rw[ki]) (by rw[ki])).congr λi hi=> ?_;by_cases eC:i=0
   ·subst eC;rw[bu];simp[bA]
   ·rw[aW _ _ eC];simp[bA,eC,hi]
  refine⟨bf.sat,bf.dD,?_,bf.tape,bf.os,bf.out,bf.old,bf.iU,bf.n0⟩;refine bf.ti.weaken (SQ _) (λi l _ x=> .inl ⟨x.1,x.2.1,λz=>z.elim⟩) (λi l _ x=>⟨x.1,x.2.1,λz=>z.elim⟩) (λidx a ha dK=> ?_);have hk:Wm t 0 idx:=by
   have xk:jq V a.loc:=by
    have zh:qe c Wg a.loc:=dK;cases hl:a.loc with
    |cell ad=>rw[hl]at zh;have e:ad.block=Wg:=zh;exact⟨by rw[e];exact hW,by rw[e];exact nI _⟩
    |obj r=>rw[hl]at zh;have e:r=c:=zh;show V.own r≠none;rw[e,hc];simp
    |_=>rw[hl]at zh;exact zh.elim
   exact gC.ti.kw 0 h.pos a.loc ⟨h.pos,by rw[ki];exact xk,λz=>z.elim⟩ idx a ha rfl
  refine⟨λ_ i hi=> ?_,λ_=>hk⟩;have cu:iH ⟨c,Wg,[],false⟩ gs.size 0 (λi=>if i<gs.size then K i else .gone 0) i:=hi;unfold iH at cu;rw[if_neg (by simp)]at cu;rcases cu with rfl|⟨_,e⟩
  ·exact hk
  ·obtain⟨q,eq⟩:=si i;simp only[eq]at e;cases e
 ·have aP:st=none:=gp;intro idx a ha hm;rcases mm idx a ha hm with z|z|⟨s,e,_⟩
  ·exact .inl z
  ·exact .inr (.inl z)
  ·rw[aP]at e;cases e
 ·refine⟨(gN hc).1,(gN RU).1,aC,(gN hc).2,(gN RU).2,by simp,λi hi=> ?_,λi i' j _ _ _ _ b5=> ?_,λj S b1=>by simp at b1,?_⟩
  ·rw[lQ i hi];exact⟨rfl,λ_=>rfl,rfl,λ_=>rfl,λe=>by obtain⟨q,eq⟩:=si i;simp only[eq]at e;cases e⟩
  ·obtain⟨q,eq⟩:=si i;simp only[eq]at b5;cases b5
  ·show if false=true then _ else _;rw[if_neg (by simp)];refine⟨hc,rfl,rfl,λi _ _=> .inr (si i),by simp,?_⟩;have hz:∀N,sumTo N (λ_=>0)=0:=λN=>(by induction N with|zero=>rfl|succ N ih=>simp[sumTo,ih]);rw[Vl (g:=λ_=>0) λi _=>by obtain⟨q,eq⟩:=si i;show (if i<gs.size then K i else GS.gone 0).cnt=0;rw[eq];rfl];exact hz _
theorem Inv.apD(h:Inv P n0 W0 V gs w t K Im ic (some p) st)(aH:p.recv=true)(ij:V.deaf=0){g0 g':SH}{n:Nat}(aV:w.heap[p.c]?=some (.chan 0 #[] true n n false)) {y:Wc} (hy:y.g=0/\y.act=.recvClosed p.c):
  (∀S∈p.Ss,S=[])/\Inv P n0 W0 {V with role:=.plain} (gs.setIfInBounds 0 g') w (t++#[y]) K Im ic none none:=by
 obtain⟨cY,gC,mm,gp⟩:=h.out;obtain⟨a1,a2,a3,a4,a5,a6,a7,a8,a9,bR⟩:=gp;rw[if_pos aH]at bR;obtain⟨c1,c2,c3,s,c4,c5⟩:=bR;have xb:(∃pp n,s=.shut pp/\t.act? pp=some (.close p.c)/\t.heard pp/\w.heap[p.c]?=some (.chan 0 #[] true n n false))/\(sumTo gs.size λi=>(K i).late)=0/\(sumTo gs.size λi=>(K i).cnt)=0/\(K ic).shape=.gone 0:=by
  have no:¬∃n,w.heap[p.c]?=some (.chan 0 #[] false n n false):=λ⟨m,e⟩=>by rw[aV]at e;simp at e
  unfold Mode at c5;rcases c5 with m|m|m|m|m|m|m
  ·exact absurd m.1 no
  ·exact absurd m.1 no
  ·exact absurd m.1 no
  ·exact absurd m.1 no
  ·exact absurd m.1 no
  ·exact absurd m.1 no
  ·exact m
 obtain⟨⟨pp,n',rfl,m1,m2,_⟩,m3,m4,m5⟩:=xb;have si:∀i,i<gs.size->∃q,K i=.gone q:=λi hi=>by
  have e1:(K i).cnt<=sumTo gs.size λi=>(K i).cnt:=WB (f:=λi=>(K i).cnt) hi;have e2:(K i).late<=sumTo gs.size λi=>(K i).late:=WB (f:=λi=>(K i).late) hi;rcases UX i with rfl|eC
  ·exact⟨0,h.k0⟩
  ·have hc:=h.rl (i:=i) eC;have z1:(K i).cnt=0:=(by omega);have z2:(K i).late=0:=(by omega);clear e1 e2;cases kz:K i<;>rw[kz]at z1 z2 hc<;>first
    |exact⟨_,rfl⟩
    |(exfalso;simp[GS.cnt]at z1;done)
    |(exfalso;simp[GS.late]at z2;done)
    |(exfalso;have:=hc rfl;subst this;rw[kz]at m5;cases m5)
 have bV:ja p V:=⟨c1.1,c1.2.1,c1.2.2.1,c1.2.2.2⟩;have bh:UQ t 0=0:=by rw[h.d0,ij]
 have nb:∀op∈(#[y]:Uk),op.act.touch?=none/\still op.act/\op.act.low w.heap.size/\(∀a,op.act≠ .mark (.release a))/\op.g=0:=by
  intro op au;simp only[TJ,SL,S0,or_false]at au;subst au;rw[hy.2];exact⟨rfl,⟨by simp,by simp⟩,a4,by simp,hy.1⟩
 have bw:∀i,UQ (t++#[y]) i=UQ t i:=λi=>Deaf_still λop au=>(nb op au).2.1;have aT:(gs.setIfInBounds 0 g').size=gs.size:=by simp
 refine⟨λS hS=> ?_,?_⟩
 ·obtain⟨j,hj⟩:=UO.1 hS;apply Tu;intro aC;obtain⟨i,e1,e2,e3⟩:=a9 j S hj aC;obtain⟨q,e⟩:=si i e2;rw[e]at e3;cases e3
 ·refine Inv.mk' (by rw[aT];exact h.pos) h.k0 (by rw[bw];exact h.d0) (λi x hi hx=> ?_) ?_ ?_ rfl
  ·rw[SU (by omega)]at hx;have hlt:i<gs.size:=(SR.1 hx).1;obtain⟨q,e⟩:=si i hlt;have hk:(K i).is P p.c p.Wg Im p.Ss (UQ t i) x:=cY i x hi hx;rw[e]at hk;rw[bw];exact⟨q,e,hk⟩
  ·rw[aT];have h1:=(gC.role (i:=0) (V':={V with role:=.plain}) h.pos (by rw[ki]) (by rw[ki])).congr (Dt:=bA {V with role:=.plain} Im K) λi hi=>by
    by_cases eC:i=0
    ·subst eC;rw[bu];simp[bA]
    ·rw[aW _ _ eC];simp[bA,eC]
   have aaD:∀i l,i<gs.size->gw (bA {V with role:=.plain} Im K i) l->¬qe p.c p.Wg l:=λi l hi hl=>by
    by_cases eC:i=0
    ·subst eC;have b':ja p (bA {V with role:=.plain} Im K 0):=(by simp only[bA,if_true];exact bV);exact b'.zx hl
    ·obtain⟨q,e⟩:=si i hi;have:bA {V with role:=.plain} Im K i=noView:=(by simp only[bA,eC,if_false,e];rfl);rw[this]at hl;exact afk.zx hl
   refine⟨h1.sat,h1.dD,?_,h1.tape,h1.os,h1.out,h1.old,h1.iU,h1.n0⟩;have vG:=h1.ti.mute (u:=#[y]) (N':=gs.size) (rd':=λi l=>i<gs.size/\gw (bA {V with role:=.plain} Im K i) l/\¬rj none l) (wr':=λi l=>i<gs.size/\jq (bA {V with role:=.plain} Im K i) l/\¬rj none l) (act':=mH (some p) gs.size ic K) (j6:=ic)
    (λop au=>(nb op au).1) (λop au=>(nb op au).2.2.1) (λop au=>by rw[(nb op au).2.2.2.2];exact h.pos) (SQ _) (λop au=>(nb op au).2.2.2.1)
    (λi hi l hl idx a ha gk hw=>(h1.ti.kr i hi l ⟨hl.1,hl.2.1,aaD i l hi hl.2.1⟩ idx a ha gk hw).app _) (λi hi l hl idx a ha gk=>(h1.ti.kw i hi l ⟨hl.1,hl.2.1,aaD i l hi hl.2.1.rd⟩ idx a ha gk).app _)
    (λidx a ha dK=>⟨λhp i hi=>((h1.ti.sp idx a ha dK).1 hp i hi).app _,λhp=>((h1.ti.sp idx a ha dK).2 hp).app _⟩)
   exact vG.weaken (SQ _) (λ_ _ _ x=> .inl x) (λ_ _ _ x=>x) (λidx a _ hx=>hx.elim)
  ·have hr:Rest p.Wg t K ic st:=mm;rw[c4]at hr;intro idx a ha hm;have fQ:=Aa (λop au=>(nb op au).1) ha;obtain⟨op,au,_⟩:=US fQ;rcases hr idx a fQ hm with z|⟨z1,z2⟩|⟨s,hs,hx⟩
   ·exact .inl (z.app _)
   ·exact .inr (.inl ⟨z1,λz=>z2 ((Wq (TG au)).1 z)⟩)
   ·cases hs;exact .inl (afM m1 m2 hy bh hx)
theorem Inv.amn(h:Inv P n0 W0 V gs w t K Im ic (some p) st)(aH:p.recv=true)(x:SH):Inv P n0 W0 V (gs.setIfInBounds 0 x) w t K Im ic (some p) st:=by
 obtain⟨cY,gC,mm,gp⟩:=h.out;obtain⟨a1,a2,a3,a4,a5,a6,a7,a8,a9,bR⟩:=gp;have aT:(gs.setIfInBounds 0 x).size=gs.size:=by simp
 rw[if_pos aH]at bR;obtain⟨c1,c2,c3,s,c4,c5⟩:=bR;refine Inv.mk' (by rw[aT];exact h.pos) h.k0 h.d0 (λi z hi hz=> ?_) (by rw[aT];exact gC) mm ⟨a1,a2,a3,a4,a5,a6,a7,by rw[aT];exact a8,by rw[aT];exact a9,?_⟩
 ·rw[SU (by omega)]at hz;exact cY i z hi hz
 ·rw[if_pos aH];refine⟨c1,c2,by rw[aT];exact c3,s,c4,?_⟩;rw[aT];have e0:t=t++#[]:=by simp
  rw[e0];exact c5.keep (λ_=>rfl) rfl rfl λqL g hg=>by rw[SU (by omega)]at hg;exact qL g hg
end
def MJ (P:SJ)(Post:SO->Tp->Prop)(n0:Nat)(W0:Tp)(V:View)(g:SH):Prop:=
 g.status=.running/\∀gs w sl t K Im ic ph st,Inv P n0 W0 V gs w t K Im ic ph st->uH V.role ph->jV gs g->Ok P Post (crowd gs w sl) t
section
variable {P:SJ}{Post:SO->Tp->Prop}{n0:Nat}{W0:Tp}
def adh (P:SJ)(Post:SO->Tp->Prop)(gs:Array SH)(w:Tp)(sl:Option (Nat×Nat))(t:Uk):Prop:=
 (∃m' ops,runT P (crowd gs w sl) 0=(.next m',ops)/\Ok P Post m' (t++ops))\/∃o w' ops,runT P (crowd gs w sl) 0=(.ended o w',ops)/\∀w0 CR,WZ P Post (crowd gs w0 CR) o w' (t++ops)
theorem jV.pos{gs:Array SH}{g:SH}(h:jV gs g):∃(i:Nat)(x:SH),gs[i]?=some x/\x.status=.running:=by
 obtain⟨g0,h0,h1,_⟩:=h;exact⟨0,g0,h0,h1⟩
theorem MJ.iF{V:View}{g:SH}(hg:g.status=.running)(own:∀gs w sl t K Im ic ph st,Inv P n0 W0 V gs w t K Im ic ph st->uH V.role ph->jV gs g->adh P Post gs w sl t):MJ P Post n0 W0 V g:=by
 refine⟨hg,λgs w sl t K Im ic ph st h hr hm=> ?_⟩;generalize hN:gs.size=N;generalize hμ:((λj=>(K j).cT),flag gs ic)=μ;induction μ using(aaw N).induction generalizing gs w sl t K st with
 |_ μ ih=>
  obtain⟨i,gi,d,n3,aL,bF,aP⟩:=ZV (P:=P) (w:=w) (sl:=sl) (h.awake (.inl hm)) hm.pos;have hd:=h.draw d;rcases UX i with rfl|hi
  ·rcases own _ _ n3 _ _ _ _ _ _ hd hr hm with⟨m',ops,h1,h2⟩|⟨o,w',ops,h1,h2⟩
   ·exact Ok.step (aP.trans h1) h2
   ·exact Ok.end (aP.trans h1) (h2 w sl)
  ·rcases hd.other (sl:=n3) (.inl hm) hi aL bF with⟨gs',w',ops,K',st',h1,h2,h3,h4,_,h5⟩|⟨p,_,_,iQ⟩
   ·have oF:jV gs' g:=by
     cases ph with
     |none=>exact(h4 g 0 (by simp)).1 hm
     |some p=>exact(h4 g p.c (λq hq=>by cases hq;rfl)).1 hm
    exact Ok.step (aP.trans h1) (ih _ (by rw[<- hμ,<- hN];exact h5) gs' w' n3 _ K' st' h3 oF (by rw[h2,hN]) rfl)
   ·obtain⟨g0,h0,hs,_⟩:=hm;obtain⟨g1,z,h1,_⟩:=iQ;rw[h1]at h0;cases h0;cases hs
theorem MJ.recv{V:View}{g:SH}{c Wg:Nat}{Ss:List (List Spec)}{z:SO}(iR:V.role=.recv c Wg Ss)(ij:V.deaf=0)(hg:g.status=.running)
  (kI:∀w,Sat V w->stepG P true g w=.comm g #[rcase c z] true (.recv true) w #[])
  (J1:∀(i:Nat) sp S v Im Ow,Ss[i]?=some (sp::S)->sp v Im Ow->(∀b,V.own b≠none->Ow b=none)->(∀b o,V.own b≠none->Im b o≠none->V.ab b o≠none)->(∃w,Sat V w/\(∀b o x,Im b o=some x->w.cell? ⟨b,o,none⟩=some x)/\∀b x,Ow b=some x->w.heap[b]?=some x)->
   MJ P Post n0 W0 (nf V Im Ow (.recv c Wg (Ss.set i S))) (T4 g (.tuple #[v,.bool true])))
  (J2:(∀S∈Ss,S=[])->MJ P Post n0 W0 {V with role:=.plain} (T4 g (.tuple #[z,.bool false]))):MJ P Post n0 W0 V g:=by
 have met:∀{gs w sl t K Im ic st i},Inv P n0 W0 V gs w t K Im ic (some ⟨c,Wg,Ss,true⟩) st->Dq P n0 W0 V gs w sl t Im ic ⟨c,Wg,Ss,true⟩ st g i->∀{m},stepT P m=runT P (crowd gs w sl) i->Ok P Post m t:=by
  rintro gs w sl t K Im ic st i _ ⟨gs',w',ops,K',j,sp,S,v,ko,Ow,h1,h2,h3,h4,h5,h6,h6',h7,h8⟩ m hm
  exact Ok.step (hm.trans h1) ((J1 j sp S v ko Ow h4 h5 h6 h6' h7).2 gs' w' sl _ K' Im ic _ st h8 rfl h3)
 refine⟨hg,λgs w sl t K Im ic ph st h hr hm=> ?_⟩;have gp:ph=some ⟨c,Wg,Ss,true⟩:=by rw[iR]at hr;exact hr
 subst gp
 suffices key:∀N μ gs w sl t K st,Inv P n0 W0 V gs w t K Im ic (some ⟨c,Wg,Ss,true⟩) st->gs.size=N->((λj=>(K j).cT),flag gs ic)=μ->(jV gs g\/(nw gs g c/\Calm gs/\x7 w c))->Ok P Post (crowd gs w sl) t from key _ _ gs w sl t K st h rfl rfl (.inl hm)
 clear h hr hm;intro N μ;induction μ using(aaw N).induction with
 |_ μ ih=>
  have A:∀gs w sl t K st,Inv P n0 W0 V gs w t K Im ic (some ⟨c,Wg,Ss,true⟩) st->gs.size=N->((λj=>(K j).cT),flag gs ic)=μ->nw gs g c->Calm gs->x7 w c->Ok P Post (crowd gs w sl) t:=by
   intro gs w sl t K st h hN hμ iQ se ho;have pA:jV gs g\/∃p,some (Phase.mk c Wg Ss true)=some p/\p.recv=true/\V.deaf=0/\nw gs g p.c:=.inr ⟨_,rfl,rfl,ij,iQ⟩;have akM:∃(i:Nat)(x:SH),gs[i]?=some x/\x.status=.running:=by
    obtain⟨i,x,_,h1,h2⟩:=h.apI rfl ho se;exact⟨i,x,h1,h2⟩
   obtain⟨i,gi,d,n3,aL,bF,aP⟩:=ZV (P:=P) (w:=w) (sl:=sl) (h.awake pA) akM;have hd:=h.draw d;have hi:0<i:=by
    rcases UX i with rfl|hi
    ·obtain⟨g1,z1,h1,_⟩:=iQ;rw[h1]at aL;cases aL;cases bF
    ·exact hi
   rcases hd.other (sl:=n3) pA hi aL bF with⟨gs',w',ops,K',st',h1,h2,h3,h4,h5,h6⟩|⟨p,hp,tR,_⟩
   ·refine Ok.step (aP.trans h1) (ih _ (by rw[<- hμ,<- hN];exact h6) gs' w' n3 _ K' st' h3 (by rw[h2,hN]) rfl ?_);rcases(h4 g c (λq hq=>by cases hq;rfl)).2 iQ ho with x|⟨x,y⟩
    ·exact .inl x
    ·exact .inr ⟨x,h5 g c iQ se,y⟩
   ·cases hp;exact met hd tR aP
  intro gs w sl t K st h hN hμ oF;rcases oF with hm|⟨h1,h2,h3⟩
  ·obtain⟨i,gi,d,n3,aL,bF,aP⟩:=ZV (P:=P) (w:=w) (sl:=sl) (h.awake (.inl hm)) hm.pos;have hd:=h.draw d;rcases UX i with rfl|hi
   ·
    obtain⟨g0,h0,nN,kD,io,mj⟩:=hm;have ff:Sat V (w.at d):=(by have:=hd.core.sat 0 h.pos;rwa [ki]at this);have kH:stepG P (0==0) g0 (w.at d)=.comm g #[rcase c z] true (.recv true) (w.at d) #[]:=(by rw[<- kI _ ff];exact Xd kD io mj _);have e0:(t++Ta 0 g0.frame.fn g0.frame.place #[])=t:=(by simp[Ta]);rcases hd.opens rfl with⟨n,gn⟩|⟨aj5,⟨n,aV⟩,_⟩
    ·by_cases Rr:∃i j h' V₁ V₂ g1 v z1,0<i/\i<gs.size/\K i=.nk j h' V₁ V₂ g1 v z1
     ·exact met hd (hd.aoE (sl:=n3) rfl ij ⟨g0,h0,nN,kD,io,mj⟩ (kI _ ff) Rr) aP
     ·have offers:∀m x,0<m->gs[m]?=some x->x.status=.blocked->x.offers=none:=by
       intro m x iy hx hb;rcases GS.runs (show (K m).is P c Wg Im Ss (UQ t m) x from h.is m x iy hx)with e|⟨e,_⟩|⟨j,h',V1,V2,g1,v,z1,e⟩|⟨_,_,e⟩
       ·rw[e]at hb;cases hb
       ·rw[e]at hb;cases hb
       ·exact absurd ⟨m,j,h',V1,V2,g1,v,z1,iy,(SR.1 hx).1,e⟩ Rr
       ·exact e
      have hw:=crowd_waits (P:=P) (sl:=n3) (i:=0) h0 kH (λcc iL=>by
       simp only[TJ,SL,S0,or_false]at iL;subst iL;refine ways_recv_none gn (partners_nil λm x hx=> ?_);rcases Yb gs 0 m x hx with⟨_,rfl⟩|⟨iy,jl⟩
       ·exact Zo _ _
       ·by_cases hb:x.status=.blocked
        ·unfold offersAt;simp[hb,offers m x (by omega) jl hb]
        ·exact UT hb _ _)
      refine Ok.step (aP.trans hw) ?_;rw[e0];refine A _ (w.at d) n3 t K st (hd.amn rfl _) (by simp[hN]) ?_ ⟨g,z,?_,rfl,rfl,rfl⟩ (λm x iy hx hb=> ?_) ⟨n,gn⟩
      ·rw[<- hμ];have fE:0<ic:=(by obtain⟨_,_,x,_⟩:=h.mode rfl;exact x);unfold flag;rw[SU (by omega)]
      ·rw[S_ h.pos]
      ·rw[SU (by omega)]at hx;exact offers m x iy hx hb
    ·have hp:partners (gs.setIfInBounds 0 ph) c true=[]:=partners_nil λm x hx=>by
      rcases Yb gs 0 m x hx with⟨_,rfl⟩|⟨iy,jl⟩
      ·exact Zo _ _
      ·have hlt:m<gs.size:=(SR.1 jl).1;rcases GS.runs (show (K m).is P c Wg Im Ss (UQ t m) x from h.is m x (by omega) jl)with e|⟨e,_⟩|⟨j,h',V1,V2,g1,v,z1,e⟩|⟨_,eb,e⟩
       ·exact UT (by rw[e];simp) _ _
       ·exact UT (by rw[e];simp) _ _
       ·have:=aj5 m (by omega) hlt;rw[e]at this;cases this
       ·unfold offersAt;simp[eb,e]
     have hw:=crowd_recv_closed (P:=P) (sl:=n3) (i:=0) h0 kH aV hp;refine Ok.step (aP.trans hw) ?_;rw[Yz,<- Xt,e0];obtain⟨hS,hinv⟩:=hd.apD rfl ij (g0:=g0) (g':=T4 g (recvd true z false)) aV (y:={g:=0,fn:=g.frame.fn,pos:=g.frame.place,act:=.recvClosed c}) ⟨rfl,rfl⟩;exact(J2 hS).2 _ (w.at d) n3 _ K Im ic none none hinv rfl ⟨T4 g (recvd true z false),by rw[S_ h.pos],rfl,rfl,rfl,rfl⟩
   ·rcases hd.other (sl:=n3) (.inl hm) hi aL bF with⟨gs',w',ops,K',st',h1,h2,h3,h4,_,h5⟩|⟨p,_,_,iQ⟩
    ·exact Ok.step (aP.trans h1) (ih _ (by rw[<- hμ,<- hN];exact h5) gs' w' n3 _ K' st' h3 (by rw[h2,hN]) rfl (.inl ((h4 g c (λq hq=>by cases hq;rfl)).1 hm)))
    ·obtain⟨g0,h0,hs,_⟩:=hm;obtain⟨g1,z1,h1,_⟩:=iQ;rw[h1]at h0;cases h0;cases hs
  ·exact A gs w sl t K st h hN hμ h1 h2 h3
theorem amB:Closed true P true (MJ P Post n0 W0)where
 step V g hs h:=by
  refine MJ.iF hs λgs w sl t K Im ic ph st hI hr ⟨g0,h0,nN,kD,io,mj⟩=> .inl ?_;have ff:Sat V w:=by have:=hI.core.sat 0 hI.pos;rwa [ki]at this
  obtain⟨g',w',es,V',h1,h2,h3⟩:=h w ff;have aP:stepG P (0==0) g0 w=.go g' w' es:=by rw[<- h1];exact Xd kD io mj w
  refine⟨_,_,runT_crowd_go h0 aP,h3.2 _ w' sl _ K Im ic ph st (hI.aao h0 h2 hr) (by rw[h2.role];exact hr) ⟨g',?_,h3.1,rfl,rfl,rfl⟩⟩;rw[S_ (by simpa using hI.pos)]
 ghost V V' g hg h:=⟨h.1,λgs w sl t K Im ic ph st hI hr hm=>h.2 gs w sl t K Im ic ph st (hI.amm hg hr) (by rw[hg.role];exact hr) hm⟩
 send V g c Wg sp S v z B hr hd hs ho h1 h2 h3:=⟨hs,λgs w sl t K Im ic ph st hI bX hm=>by rw[hr]at bX;exact bX.elim⟩
 done V g c Wg hr hd h1:=⟨h1.1,λgs w sl t K Im ic ph st hI bX hm=>by rw[hr]at bX;exact bX.elim⟩
 slip V g g' c Wg hr hs h1 h2:=⟨hs,λgs w sl t K Im ic ph st hI bX hm=>by rw[hr]at bX;exact bX.elim⟩
 more _:={
  start:=λV g c Wg hr aC hc hW nI h=>⟨h.1,λgs w sl t K Im ic ph st hI bX hm=>by
   rw[hr]at bX;cases bX;exact h.2 gs w sl t _ Im 0 _ _ (hI.begin aC hc hW nI) rfl hm⟩
  Ec:=λV g g' child c Wg Ss sp S hr hd hs hc hW hlen nI aP eJ KN h=>by
   refine MJ.iF hs λgs w sl t K Im ic ph st hI bX ⟨g0,h0,nN,kD,io,mj⟩=> .inl ?_;rw[hr]at bX;cases bX;have ff:Sat V w:=(by have:=hI.core.sat 0 hI.pos;rwa [ki]at this);have ld:stepG P (0==0) g0 w=.spawn g' child w #[]:=(by rw[<- aP w ff];exact Xd kD io mj w);obtain⟨hh,hk⟩:=KN _ (arn P);have bF:=aa_ (P:=P) (sl:=sl) h0 ld;have e0:Ta 0 g0.frame.fn g0.frame.place #[]=#[]:=rfl;rw[e0]at bF;have hinv:=hI.Ec (g':=g') (x:={g:=0,fn:=g0.frame.fn,pos:=g0.frame.place,act:=.go gs.size}) (y:={g:=gs.size,fn:=child.frame.fn,pos:=g0.frame.place,act:=.start}) rfl hd ⟨rfl,rfl⟩ ⟨rfl,rfl⟩ hlen nI hk;exact⟨_,_,bF,h.2 _ w sl _ _ Im ic _ _ hinv rfl ⟨g',by rw[Xj,if_neg (by simp;have:=hI.pos;omega),S_ hI.pos],h.1,rfl,rfl,rfl⟩⟩
  Eb:=λV g g' child c Wg Ss hr hd hs aC hc hW yP nI aP eJ aV h=>by
   refine MJ.iF hs λgs w sl t K Im ic ph st hI bX ⟨g0,h0,nN,kD,io,mj⟩=> .inl ?_;rw[hr]at bX;cases bX;have ff:Sat V w:=(by have:=hI.core.sat 0 hI.pos;rwa [ki]at this);have ld:stepG P (0==0) g0 w=.spawn g' child w #[]:=(by rw[<- aP w ff];exact Xd kD io mj w);obtain⟨n,hk⟩:=aV;have bF:=aa_ (P:=P) (sl:=sl) h0 ld;have e0:Ta 0 g0.frame.fn g0.frame.place #[]=#[]:=rfl;rw[e0]at bF;have hinv:=hI.Eb (g':=g') (x:={g:=0,fn:=g0.frame.fn,pos:=g0.frame.place,act:=.go gs.size}) (y:={g:=gs.size,fn:=child.frame.fn,pos:=g0.frame.place,act:=.start}) rfl hd ⟨rfl,rfl⟩ ⟨rfl,rfl⟩ hW nI hk;exact⟨_,_,bF,h.2 _ w sl _ _ V.ab gs.size _ _ hinv rfl ⟨g',by rw[Xj,if_neg (by simp;have:=hI.pos;omega),S_ hI.pos],h.1,rfl,rfl,rfl⟩⟩
  recv:=λV g c Wg Ss z hr hd hs ho aP j1 j2=>MJ.recv hr hd hs aP j1 j2}
structure Left (n0:Nat)(W0 w:Tp):Prop where
 tape:w.tape=W0.tape
 os:w.os=W0.os
 out:w.output=W0.output
 old:∀b,b<n0->w.heap[b]?=W0.heap[b]?
 size:n0<=w.heap.size
theorem Inv.IW{V:View}{gs:Array SH}{w:Tp}{t:Uk}{K:Nat->GS}{Im:cm}{ic:Nat}{st:Option dZ}(h:Inv P n0 W0 V gs w t K Im ic none st){v:SO}(hp:Post v w)(w0:Tp)(CR:Option (Nat×Nat)):WZ P Post (crowd gs w0 CR) (.done v) w t:=by
 obtain⟨cY,gC,mm,aP⟩:=h.out;have ld:st=none:=aP;refine⟨v,rfl,hp,gC.ti.nr,?_,⟨?_,rfl⟩,?_⟩
 ·intro i g hg nN ⟨x,hx,hm,hk⟩;rcases mm i x hx hm with⟨q,z,h1,h2,h3⟩|⟨h1,h2⟩|⟨_,h1,_⟩
  ·rcases h3 with rfl|h3
   ·exfalso;simp only[Wz,h1,UM,Tl]at hg;omega
   ·exact⟨q,by simp[Wz,h1,h2],h3⟩
  ·rcases hk with hk|hk
   ·exact absurd h1 hk
   ·exact absurd hk h2
  ·rw[ld]at h1;cases h1
 ·intro g hg;obtain⟨i,hi⟩:=UO.1 hg;rw[Um]at hi;have cu:gs[1+i]?=some g:=by simpa[crowd]using hi
  obtain⟨q,_,hq⟩:=cY (1+i) g (by omega) cu;exact⟨q,hq.leaves⟩
 ·intro i g hi eC;obtain⟨q,_,hq⟩:=cY i g (by omega) hi;exact⟨q,hq.hears _⟩
theorem MJ.end{V:View}{g:SH}(hg:g.status=.running)(hr:V.role=.plain)
  (h:∀w,Sat V w->Left n0 W0 w->(∀b,b<n0->V.own b=none)->∃v w' es V',stepG P true g w=.ended (.done v) w' es/\cV V w V' w' es/\Post v w'):MJ P Post n0 W0 V g:=by
 refine MJ.iF hg λgs w sl t K Im ic ph st hI bX ⟨g0,h0,nN,kD,io,mj⟩=> .inr ?_;have gC:=hI.out.2.1;have ff:Sat V w:=by have:=hI.core.sat 0 hI.pos;rwa [ki]at this
 obtain⟨v,w',es,V',h1,h2,h3⟩:=h w ff ⟨gC.tape,gC.os,gC.out,gC.old,gC.n0⟩ (λb hb=>by have:=gC.iU 0 hI.pos b hb;rwa [ki]at this);have aP:stepG P (0==0) g0 w=.ended (.done v) w' es:=by rw[<- h1];exact Xd kD io mj w
 refine⟨_,w',_,runT_crowd_ended h0 aP,λw0 CR=> ?_⟩;have gp:ph=none:=by rw[hr]at bX;exact bX
 subst gp;have hinv:=hI.aao (g':=g0) h0 h2 bX;have sh:=hinv.IW (Post:=Post) h3 w0 CR;obtain⟨v',e,hp,hn,hh,hl,hd⟩:=sh;refine⟨v',e,hp,hn,hh,⟨?_,rfl⟩,?_⟩
 ·intro g JD;obtain⟨i,hi⟩:=UO.1 JD;rw[Um]at hi;have cu:gs[1+i]?=some g:=by simpa[crowd]using hi
  obtain⟨q,_,hq⟩:=hI.out.1 (1+i) g (by omega) cu;exact⟨q,hq.leaves⟩
 ·intro i g hi eC;obtain⟨q,_,hq⟩:=hI.out.1 i g (by omega) hi;refine⟨q,?_⟩;have:(t++Ta 0 g0.frame.fn g0.frame.place es).deaf i (t++Ta 0 g0.frame.fn g0.frame.place es).size=UQ t i:=
   ate t (g:=i) (g':=0) (by omega) _ λop au=>by obtain⟨e,_,rfl⟩:=TL au;rfl
  rw[this];exact hq.hears _
theorem Inv.init(W:Tp){V:View}(ho:V.own=λ_=>none)(hd:V.deaf=0)(hs:Sat V W)(g:SH):Inv P W.heap.size W V #[g] W #[] (λ_=> .gone 0) V.ab 0 none none:=by
 have fH:∀i,i<(1:Nat)->bA V V.ab (λ_=> .gone 0) i=V:=λi hi=>by
  obtain rfl:i=0:=by omega
  simp[bA]
 refine Inv.mk' (by simp) rfl (by rw[hd];rfl) (λi x hi hx=> ?_) ⟨λi hi=>by rw[fH i hi];exact hs,λi j hi hj jP=> ?_,?_,rfl,rfl,rfl,λ_ _=>rfl,λi hi b _=>by rw[fH i hi,ho],SQ _⟩ ?_ rfl
 ·exfalso;have:=(SR.1 hx).1;simp at this;omega
 ·simp at hi hj;omega
 ·refine⟨λsaid hr=> ?_,by simp,by simp,by simp,λi _ l _ idx a ha=> ?_,λi _ l _ idx a ha=> ?_,λidx a ha=> ?_⟩
  ·obtain⟨i,j,_,⟨a,b,ha,_⟩,_⟩:=hr;obtain⟨op,au,_⟩:=US ha;simp at au
  ·obtain⟨op,au,_⟩:=US ha;simp at au
  ·obtain⟨op,au,_⟩:=US ha;simp at au
  ·obtain⟨op,au,_⟩:=US ha;simp at au
 ·intro idx a ha _;obtain⟨op,au,_⟩:=US ha;simp at au
theorem aiN{f:TO}{args:Array SO}{W:Tp}{V:View}{R:Out->View->Prop}(hi:P.inits.idxOf? f=none)(ho:V.own=λ_=>none)(hd:V.deaf=0)(bX:V.role=.plain)(hs:Sat V W)(h:Body true P f args .normal V R)
  (hR:∀o V',R o V'->V'.role=.plain/\∃v,o=.ret v/\∀w,Sat V' w->Left W.heap.size W w->Post v w):
  ∃M last o w' t',runNT P (M+1) (solo (G (Frame.enter P f args .normal) []) W) #[]=(.ended o w',t')/\runN P M (solo (G (Frame.enter P f args .normal) []) W)=.next last/\step P last=.ended o w'/\WZ P Post last o w' t':=by
 have hJ:MJ P Post W.heap.size W V (G (Frame.enter P f args .normal) []):=by
  refine h true _ amB [] λo V' fr r hl=> ?_;obtain⟨hr,v,rfl,hp⟩:=hR _ _ r;obtain⟨rfl,bw,hk,fn,hf,hm,fW⟩:=hl;refine MJ.end rfl hr λw hw y8 hold=> ?_;obtain⟨es,w',aR,h1,h2,h3⟩:=fW.runs hw;rcases h3 with⟨x,h3,rfl,rfl⟩|⟨_,_,hx⟩
  ·refine⟨x,w',seen P fr.fn es,aR,by simp[G,stepG,unwind,doReturn,hm,bw,hk,hf,h3,h2,T1,hi],h1.seen P fr.fn,?_⟩;refine hp w' h1.sat ⟨h1.tape.trans y8.tape,h1.os.trans y8.os,h1.output.trans y8.out,λb hb=> ?_,UF y8.size h1.size⟩;rw[h1.frame b (Tc hb y8.size) (hold b hb)];exact y8.old b hb
  ·exact hx.elim
 exact hJ.2 #[_] W none #[] _ _ _ none none (Inv.init W ho hd hs _) (by rw[bX];rfl) ⟨_,rfl,rfl,rfl,rfl,rfl⟩
end
def fX (P:SJ)(main:Bool)(g:SH):SH:=match stepG P main g default with
 |.go g' _ _=>g'
 |_=>g
def zy (P:SJ)(main:Bool)(g:SH):Array Uq:=match stepG P main g default with
 |.go _ _ es=>es
 |_=>#[]
def cx (P:SJ)(main:Bool):Nat->SH->SH
 |0,g=>g
 |n+1,g=>cx P main n (fX P main g)
def fw (P:SJ)(main:Bool)(w:Tp):Nat->SH->List ZD
 |0,_=>[]
 |n+1,g=>stepG P main g w::fw P main w n (fX P main g)
def fj (P:SJ)(main:Bool)(w:Tp):Nat->SH->List ZD
 |0,_=>[]
 |n+1,g=> .go (fX P main g) w (zy P main g)::fj P main w n (fX P main g)
def bL (g:SH):Bool:=match g.status with
 |.running=>true
 |_=>false
theorem bL.out{g:SH}(h:bL g=true):g.status=.running:=by
 unfold bL at h;split at h
 ·assumption
 ·cases h
def iA (P:SJ)(main:Bool):Nat->SH->Bool
 |0,_=>true
 |n+1,g=>bL g&&(zy P main g).all WF&&iA P main n (fX P main g)
def nX (P:SJ)(main:Bool):Nat->SH->Bool
 |0,_=>true
 |n+1,g=>bL g&&(zy P main g).isEmpty&&nX P main n (fX P main g)
def jv (P:SJ)(main:Bool):Nat->Nat->SH->Nat
 |0,d,_=>d
 |n+1,d,g=>jv P main n (deafBehind d (zy P main g)) (fX P main g)
section
variable {P:SJ}
theorem LH{n:Nat}{main:Bool}{g:SH}(h:iA P main (n+1) g=true):g.status=.running/\(∀e∈zy P main g,WF e=true)/\iA P main n (fX P main g)=true:=by
 simp only[iA,Th]at h;exact⟨bL.out h.1.1,λe he=>UE.1 h.1.2 e he,h.2⟩
theorem vW{Stop:Nat->SH->Prop}:∀(n d:Nat)(g:SH),(∀w,fw P false w n g=fj P false w n g)->iA P false n g=true->(∃m,cL P Stop m (jv P false n d g) (cx P false n g))->∃m,cL P Stop m d g
 |0,d,g,_,_,hs=>hs
 |n+1,d,g,h,hm,hs=>by
  obtain⟨h1,h2,h3⟩:=LH hm;obtain⟨m,hm⟩:=vW n _ (fX P false g) (λw=>(Vu (h w)).2) h3 hs;exact⟨m+1,.inr ⟨h1,_,_,h2,λw=>(Vu (h w)).1,hm⟩⟩
theorem ab0{Wg:Nat}{Stop:Nat->SH->Prop}:∀(n d:Nat)(g:SH),(∀w,fw P false w n g=fj P false w n g)->iA P false n g=true->(∃m,gJ P Wg Stop m (jv P false n d g) (cx P false n g))->∃m,gJ P Wg Stop m d g
 |0,d,g,_,_,hs=>hs
 |n+1,d,g,h,hm,hs=>by
  obtain⟨h1,h2,h3⟩:=LH hm;obtain⟨m,hm⟩:=ab0 n _ (fX P false g) (λw=>(Vu (h w)).2) h3 hs;exact⟨m+1,.inr ⟨h1,_,_,h2,λw _ _ _=>(Vu (h w)).1,hm⟩⟩
theorem ab1{Wg:Nat}{Stop:Nat->SH->Prop}{d:Nat}{g g':SH}(hr:g.status=.running)(h:∀w x y,WgAt P Wg w x y->stepG P false g w=.go g' w #[]) (hs:∃m,gJ P Wg Stop m d g'):∃m,gJ P Wg Stop m d g:=by
 obtain⟨m,hm⟩:=hs;exact⟨m+1,.inr ⟨hr,g',#[],by simp,h,by simpa[deafBehind]using hm⟩⟩
theorem Gp:∀(n d:Nat)(g:SH),(∀w,fw P false w n g=fj P false w n g)->iA P false n g=true->(∃q,Y7 P q (jv P false n d g) (cx P false n g))->∃q,Y7 P q d g
 |0,d,g,_,_,hs=>hs
 |n+1,d,g,h,hm,hs=>by
  obtain⟨h1,h2,h3⟩:=LH hm;obtain⟨m,hm⟩:=Gp n _ (fX P false g) (λw=>(Vu (h w)).2) h3 hs;exact⟨m+1,.inr ⟨h1,_,_,h2,λw=>(Vu (h w)).1,hm⟩⟩
theorem Mo{d:Nat}{g:SH}(h:g.status=.finished)(hd:d=0):∃q,Y7 P q d g:=⟨0,h,hd⟩
theorem aoA{n:Nat}{main:Bool}{g:SH}(h:nX P main (n+1) g=true):g.status=.running/\zy P main g=#[]/\nX P main n (fX P main g)=true:=by
 simp only[nX,Th]at h;exact⟨bL.out h.1.1,by simpa using h.1.2,h.2⟩
theorem sE{lv main:Bool}{J:View->SH->Prop}(C:Closed lv P main J){V:View}:∀(n:Nat)(g:SH),(∀w,fw P main w n g=fj P main w n g)->nX P main n g=true->J V (cx P main n g)->J V g
 |0,g,_,_,hs=>hs
 |n+1,g,h,hm,hs=>by
  obtain⟨h1,h2,h3⟩:=aoA hm;refine C.idle h1 (λw=> ?_) (sE C n (fX P main g) (λw=>(Vu (h w)).2) h3 hs);rw[(Vu (h w)).1,h2]
theorem Closed.mute{lv main:Bool}{J:View->SH->Prop}(C:Closed lv P main J){V:View}{g g':SH}{m:Mark}(hm:m=.disable\/m=.enable)(hr:g.status=.running)(h:∀w,stepG P main g w=.go g' w #[⟨.mark m,false,true⟩]) (hJ:J {V with deaf:=deafBehind V.deaf #[⟨.mark m,false,true⟩]} g'):J V g:=by
 refine C.step _ _ hr λw hw=> ?_;have hs:=apr (P:=P) (V:=V) (k:=(.pure ():Sem Unit)) (K:=λ_ V'=>V'={V with deaf:=deafBehind V.deaf #[⟨.mark m,false,true⟩]}) (Kp:=λ_ _=>False) hm (cD rfl);obtain⟨es,w',V',k1,k2,k3⟩:=hs.runs hw;rcases k3 with⟨x,k3,rfl⟩|⟨_,_,hx⟩
 ·have e1:Yi () w=Yi x w':=k3;have e2:es=#[⟨.mark m,false,true⟩]:=k2.symm;cases e1;subst e2;refine⟨g',w,_,_,h w,?_,hJ⟩;rwa [sH (by rcases hm with rfl|rfl<;>simp)]at k1
 ·exact hx.elim
def ready (g:SH):Option Tv:=match g with
 |{frame:={fn:=_,tmps,todo:=.inRegion ops (i::_)::_,defers:=_,mode:=.run,kind,roundOf:=none},callers:=_,status:=.running,dying:=none,offers:=none}=>
  match ops[i]?with
  |some o=>if Tf o (yielded ops tmps)&& !(kind== .early)then some o else none
  |none=>none
 |_=>none
def fin (g:SH)(v:SO):SH:={g with frame:=g.frame.finish v}
theorem ready.out{g:SH}{o:Tv}(h:ready g=some o):∃(b:Ua)(a:Act)(ops:Array Tv)(i:Nat)(rest:List Nat)(k:List WT)(cs:List Ua),g=G (b.at a (.inRegion ops (i::rest)::k)) cs/\ops[i]?=some o/\Tf o (yielded ops a.tmps)=true/\b.kind≠ .early/\a.eval=g.frame.eval/\
  (∀v,G (b.at (a.put o.dst v) (.inRegion ops rest::k)) cs=fin g v)/\b.fn=g.frame.fn/\g.status=.running:=by
 unfold ready at h;split at h
 ·rename_i fn tmps ops i rest k defers kind cs;split at h
  ·rename_i o' ho;split at h
   ·rename_i hw;cases h;simp only[Th,TW,beq_eq_false_iff_ne,ne_eq]at hw;refine⟨{(default:Ua)with fn,kind},⟨tmps,defers⟩,ops,i,rest,k,cs,rfl,ho,hw.1,hw.2,?_,λv=> ?_,rfl,rfl⟩
    ·funext x;cases x<;>rfl
    ·unfold fin;have:=Frame.finish_at {(default:Ua)with fn,kind} ⟨tmps,defers⟩ ops i rest k v;rw[ho]at this;simp only[Frame.at,Option.bind_some]at this⊢;rw[this];rfl
   ·cases h
  ·cases h
 ·cases h
def cg (g:SH):Option (TO×Array SO):=match ready g with
 |some {op:=.call {callee:=.value (.func f),args, .. }, .. }=>some (f,args.map g.frame.eval)
 |_=>none
theorem cg.out{g:SH}{f:TO}{vs:Array SO}(h:cg g=some (f,vs)):∃o aD lD,ready g=some o/\o.op=.call {callee:=.value (.func f),args:=aD,argTypes:=lD}/\aD.map g.frame.eval=vs:=by
 unfold cg at h;split at h
 ·rename_i f' aD lD dst ty pos af gd ho;cases h;exact⟨_,_,_,ho,rfl,rfl⟩
 ·cases h
structure Ext (P:SJ)(f:TO)(e:Array SO->Sem SO):Prop where
 fn : ∃ fn, P.funcs[f]? = some fn /\ (fn.name == "runtime.NumGoroutine") = false /\ fn.body.isNone = true /\ Extern.findNext fn = none /\ Extern.find fn = some e
variable {main:Bool}{g:SH}{f:TO}{w:Tp}
theorem ab4{v d:Int}{k:TV}{ad:U2}(h:cg g=some (f,#[.pointer (some ad),.int k d])) (he:Ext P f (XR (atl .add) k true)) (hc:w.cell? ad=some (.int k v)) (hz:w.frozen? ad=false):
  stepG P main g w=.go (fin g (.int k (k.wrap (v+d)))) (w.setCell ad (.int k (k.wrap (v+d)))) #[⟨.cell ad,false,true⟩,⟨.cell ad,true,true⟩]:=by
 obtain⟨o,aD,lD,h1,h2,h3⟩:=cg.out h;obtain⟨b,a,ops,i,rest,kk,cs,e,q1,q2,q3,q4,q5,q6,_⟩:=ready.out h1;obtain⟨fn,f1,f2,f3,f4,f5⟩:=he.fn;rw[<- q4]at h3;rw[<- q5];refine VI (congrArg (λx=>stepG P main x w) e) ?_;exact ZE q1 q2 q3 h2 f1 f2 f3 f4 f5 (by rw[h3];exact run_add_entry hc hz) (by rw[h3,events_add_entry hc hz];rfl) (sync_rw ad)
theorem MH{v:Int}{k:TV}{ad:U2}(h:cg g=some (f,#[.pointer (some ad)])) (he:Ext P f (X4 (.int k))) (hc:w.cell? ad=some (.int k v)):
  stepG P main g w=.go (fin g (.int k v)) w #[⟨.cell ad,false,true⟩]:=by
 obtain⟨o,aD,lD,h1,h2,h3⟩:=cg.out h;obtain⟨b,a,ops,i,rest,kk,cs,e,q1,q2,q3,q4,q5,q6,_⟩:=ready.out h1;obtain⟨fn,f1,f2,f3,f4,f5⟩:=he.fn;rw[<- q4]at h3;rw[<- q5];refine VI (congrArg (λx=>stepG P main x w) e) ?_;obtain⟨x,rfl⟩:∃x,aD=#[x]:=by
  have:aD.size=1:=by have:=congrArg ab_ h3;simpa using this
  exact Array.size_eq_one_iff.1 this
 exact stepG_load_atomic q1 q2 q3 h2 f1 f2 f3 f4 k f5 (by simpa using h3) hc
theorem ap0{v:Int}{u:SO}{k:TV}{ad:U2}(h:cg g=some (f,#[.pointer (some ad),.int k v])) (he:Ext P f XS) (hc:w.cell? ad=some u) (hz:w.frozen? ad=false):
  stepG P main g w=.go (fin g (.tuple #[])) (w.setCell ad (.int k v)) #[⟨.cell ad,true,true⟩]:=by
 obtain⟨o,aD,lD,h1,h2,h3⟩:=cg.out h;obtain⟨b,a,ops,i,rest,kk,cs,e,q1,q2,q3,q4,q5,q6,_⟩:=ready.out h1;obtain⟨fn,f1,f2,f3,f4,f5⟩:=he.fn;rw[<- q4]at h3;rw[<- q5];refine VI (congrArg (λx=>stepG P main x w) e) ?_;obtain⟨x,y,rfl⟩:∃x y,aD=#[x,y]:=by
  have:aD.toList.length=2:=by have:=congrArg ab_ h3;simpa using this
  obtain⟨l⟩:=aD
  match l,this with
  |[x,y],_=>exact⟨x,y,rfl⟩
 have tC:a.eval x=.pointer (some ad)/\a.eval y=.int k v:=by simpa using h3
 exact stepG_store_atomic q1 q2 q3 h2 f1 f2 f3 f4 f5 tC.1 tC.2 hc hz
theorem apS{v n:Int}{k:TV}{ad:U2}(h:cg g=some (f,#[.pointer (some ad),.int k v,.int k n])) (he:Ext P f (WU (.int k))) (hc:w.cell? ad=some (.int k v)) (hz:w.frozen? ad=false):
  stepG P main g w=.go (fin g (.bool true)) (w.setCell ad (.int k n)) #[⟨.cell ad,false,true⟩,⟨.cell ad,true,true⟩]:=by
 obtain⟨o,aD,lD,h1,h2,h3⟩:=cg.out h;obtain⟨b,a,ops,i,rest,kk,cs,e,q1,q2,q3,q4,q5,q6,_⟩:=ready.out h1;obtain⟨fn,f1,f2,f3,f4,f5⟩:=he.fn;rw[<- q4]at h3;rw[<- q5];refine VI (congrArg (λx=>stepG P main x w) e) ?_;exact ZE q1 q2 q3 h2 f1 f2 f3 f4 f5 (by rw[h3,Z1];exact run_cas_hit_entry hc hz) (by rw[h3,Z1,events_cas_hit_entry hc hz];rfl) (sync_rw ad)
theorem apU{v old n:Int}{k:TV}{ad:U2}(h:cg g=some (f,#[.pointer (some ad),.int k old,.int k n])) (he:Ext P f (WU (.int k))) (hc:w.cell? ad=some (.int k v)) (hz:w.frozen? ad=false) (aC:¬v=old):
  stepG P main g w=.go (fin g (.bool false)) w #[⟨.cell ad,false,true⟩]:=by
 obtain⟨o,aD,lD,h1,h2,h3⟩:=cg.out h;obtain⟨b,a,ops,i,rest,kk,cs,e,q1,q2,q3,q4,q5,q6,_⟩:=ready.out h1;obtain⟨fn,f1,f2,f3,f4,f5⟩:=he.fn;rw[<- q4]at h3;rw[<- q5];refine VI (congrArg (λx=>stepG P main x w) e) ?_;exact ZE q1 q2 q3 h2 f1 f2 f3 f4 f5 (by rw[h3,Z1];exact run_cas_miss_entry hc hz aC) (by rw[h3,Z1,events_cas_miss_entry hc hz aC];rfl) (sync_r ad)
theorem apY{n:Int}{x y:SO}{ad:U2}(h:cg g=some (f,#[.pointer (some ad),x,y])) (he:Ext P f XQ) (hc:w.cell? ad=some (.int .u32 n)) (hz:w.frozen? ad=false):
  stepG P main g w=.go (fin g (.tuple #[])) (w.setCell ad (.int .u32 (ai'.wrap (n+1)))) (semEvents ad):=by
 obtain⟨o,aD,lD,h1,h2,h3⟩:=cg.out h;obtain⟨b,a,ops,i,rest,kk,cs,e,q1,q2,q3,q4,q5,q6,_⟩:=ready.out h1;obtain⟨fn,f1,f2,f3,f4,f5⟩:=he.fn;rw[<- q4]at h3;rw[<- q5];refine VI (congrArg (λx=>stepG P main x w) e) ?_;exact stepG_semrelease q1 q2 q3 h2 f1 f2 f3 f4 f5 (by rw[h3];rfl) hc hz
theorem apX{n:Int}{x:SO}{ad:U2}(h:cg g=some (f,#[.pointer (some ad),x])) (he:Ext P f WE) (hc:w.cell? ad=some (.int .u32 n)) (hn:n≠0) (hz:w.frozen? ad=false):
  stepG P main g w=.go (fin g (.tuple #[])) (w.setCell ad (.int .u32 (n-1))) (semEvents ad):=by
 obtain⟨o,aD,lD,h1,h2,h3⟩:=cg.out h;obtain⟨b,a,ops,i,rest,kk,cs,e,q1,q2,q3,q4,q5,q6,_⟩:=ready.out h1;obtain⟨fn,f1,f2,f3,f4,f5⟩:=he.fn;rw[<- q4]at h3;rw[<- q5];refine VI (congrArg (λx=>stepG P main x w) e) ?_;exact stepG_semacquire q1 q2 q3 h2 f1 f2 f3 f4 f5 (by rw[h3];rfl) hc hn hz
theorem apZ{x:SO}{ad:U2}(h:cg g=some (f,#[.pointer (some ad),x])) (he:Ext P f WE) (hc:w.cell? ad=some (.int .u32 0)):
  stepG P main g w=.go {g with status:=.blocked} w #[]:=by
 obtain⟨o,aD,lD,h1,h2,h3⟩:=cg.out h;obtain⟨b,a,ops,i,rest,kk,cs,e,q1,q2,q3,q4,q5,q6,_⟩:=ready.out h1;obtain⟨fn,f1,f2,f3,f4,f5⟩:=he.fn;rw[<- q4]at h3;rw[e];exact stepG_semacquire_wait q1 q2 h2 f1 f2 f3 f4 f5 (by rw[h3];rfl) hc
theorem GD{ad:U2}(mk:U2->Mark)(hm:∀ad g,mk ad≠ .extern g)(h:cg g=some (f,#[.pointer (some ad)])) (he:Ext P f (VH mk)):
  stepG P main g w=.go (fin g (.tuple #[])) w #[⟨.mark (mk ad),false,true⟩]:=by
 obtain⟨o,aD,lD,h1,h2,h3⟩:=cg.out h;obtain⟨b,a,ops,i,rest,kk,cs,e,q1,q2,q3,q4,q5,q6,_⟩:=ready.out h1;obtain⟨fn,f1,f2,f3,f4,f5⟩:=he.fn;rw[<- q4]at h3;rw[<- q5];refine VI (congrArg (λx=>stepG P main x w) e) ?_;exact stepG_markAt mk hm q1 q2 q3 h2 f1 f2 f3 f4 f5 (by rw[h3];rfl)
def ou (g:SH):Option (TypeId×TypeId×SO):=match ready g with
 |some {op:=.convert s d x, .. }=>some (s,d,g.frame.eval x)
 |_=>none
theorem GF{src dst t:TypeId}{ad:U2}{v:SO}(h:ou g=some (src,dst,.pointer (some ad)))(hs:P.underlying src=some (.pointer t))(hd:P.underlying dst=some .unsafePointer)(aT:(P.info? t).map (λi=>decide (i.size=0))=some false)(hc:w.cell? ad=some v):
  stepG P main g w=.go (fin g (.pointer (some ad))) w #[]:=by
 obtain⟨o,x,h1,h2,h3⟩:∃o x,ready g=some o/\o.op=.convert src dst x/\g.frame.eval x=.pointer (some ad):=by
  unfold ou at h;split at h
  ·rename_i s d x _ _ _ _ ho;simp only[Tl,UZ]at h;obtain⟨rfl,rfl,h⟩:=h;exact⟨_,x,ho,rfl,h⟩
  ·cases h
 obtain⟨b,a,ops,i,rest,kk,cs,e,q1,q2,q3,q4,q5,q6,_⟩:=ready.out h1;rw[<- q4]at h3;rw[<- q5];refine VI (congrArg (λx=>stepG P main x w) e) ?_;have hr:(execOp a.eval o).run P w=.ok (.value (.pointer (some ad))) w:=by
  unfold execOp;simp only[h2,h3];simp[run_convert_to_unsafe hs hd aT hc]
 have cj:(execOp a.eval o).events P w #[]=#[]:=by
  unfold execOp;simp only[h2,h3];simp[events_convert_to_unsafe hs hd aT hc]
 rw[atd q1 q2 q3 hr];unfold listed;rw[cj,Z']
end
open Go.Proofs
section
variable {P:SJ}
theorem MD{Stop:Nat->SH->Prop}{d:Nat}{g g':SH}{es:Array Uq}(hr:g.status=.running)(hm:∀e∈es,WF e=true)(h:∀w,stepG P false g w=.go g' w es)(hs:∃m,cL P Stop m (deafBehind d es) g'):∃m,cL P Stop m d g:=by
 obtain⟨m,hs⟩:=hs;exact⟨m+1,.inr ⟨hr,g',es,hm,h,hs⟩⟩
theorem GC{main:Bool}{g:SH}{f:TO}{w:Tp}{m:Mark}(hm:∀g,m≠ .extern g)(h:cg g=some (f,#[])) (he:Ext P f (λ_=>do ad' m;pure W7)):stepG P main g w=.go (fin g (.tuple #[])) w #[⟨.mark m,false,true⟩]:=by
 obtain⟨o,xs,lD,h1,h2,h3⟩:=cg.out h;obtain⟨b,a,ops,i,rest,kk,cs,e,q1,q2,q3,q4,q5,q6,_⟩:=ready.out h1;obtain⟨fn,f1,f2,f3,f4,f5⟩:=he.fn;rw[<- q4]at h3;rw[<- q5];refine VI (congrArg (λx=>stepG P main x w) e) ?_;exact stepG_mark0 m hm q1 q2 q3 h2 f1 f2 f3 f4 f5
theorem ab5{main:Bool}{g:SH}{f:TO}{w:Tp}{v:SO}{vs:Array SO}(h:cg g=some (f,vs))(he:Ext P f (λ_=>pure v)):stepG P main g w=.go (fin g v) w #[]:=by
 obtain⟨o,xs,lD,h1,h2,h3⟩:=cg.out h;obtain⟨b,a,ops,i,rest,kk,cs,e,q1,q2,q3,q4,q5,q6,_⟩:=ready.out h1;obtain⟨fn,f1,f2,f3,f4,f5⟩:=he.fn;rw[<- q5];refine VI (congrArg (λx=>stepG P main x w) e) ?_;exact stepG_entry_pure v q1 q2 q3 h2 f1 f2 f3 f4 f5
theorem WgAt.st{Wg:Nat}{w:Tp}{st sm:Int}(h:WgAt P Wg w st sm):w.cell? ⟨Wg,0,none⟩=some (.int .u64 st)/\w.cell? ⟨Wg,1,none⟩=some (.int .u32 sm)/\w.frozen? ⟨Wg,0,none⟩=false/\w.frozen? ⟨Wg,1,none⟩=false:=by
 unfold WgAt wgBlock at h;refine⟨?_,?_,?_,?_⟩<;>simp[Ux,ZQ,h]
theorem LI{m:Mark}(hm:m=.disable\/m=.enable):∀e∈(#[⟨.mark m,false,true⟩]:Array Uq),WF e=true:=by
 intro e he;simp only[TJ,SL,S0,or_false]at he;subst he;rcases hm with rfl|rfl<;>rfl
end
set_option maxRecDepth 100000
theorem agj:Ext SC 110 (VH .releaseMerge):=⟨⟨Tryz.f110,by kernel_rfl,by kernel_rfl,by kernel_rfl,by kernel_rfl,by kernel_rfl⟩⟩
theorem Ig:Ext SC 111 (λ_=>do ad' .disable;pure W7):=⟨⟨Tryz.f111,by kernel_rfl,by kernel_rfl,by kernel_rfl,by kernel_rfl,by kernel_rfl⟩⟩
theorem agk:Ext SC 112 (λ_=>do ad' .enable;pure W7):=⟨⟨Tryz.f112,by kernel_rfl,by kernel_rfl,by kernel_rfl,by kernel_rfl,by kernel_rfl⟩⟩
theorem OP:Ext SC 113 (λ_=>pure (.bool false)):=⟨⟨Tryz.f113,by kernel_rfl,by kernel_rfl,by kernel_rfl,by kernel_rfl,by kernel_rfl⟩⟩
theorem agl:Ext SC 118 (VH .read):=⟨⟨Tryz.f118,by kernel_rfl,by kernel_rfl,by kernel_rfl,by kernel_rfl,by kernel_rfl⟩⟩
theorem agm:Ext SC 122 XQ:=⟨⟨Tryz.f122,by kernel_rfl,by kernel_rfl,by kernel_rfl,by kernel_rfl,by kernel_rfl⟩⟩
theorem agn:Ext SC 123 (VH .acquire):=⟨⟨Tryz.f123,by kernel_rfl,by kernel_rfl,by kernel_rfl,by kernel_rfl,by kernel_rfl⟩⟩
theorem ago:Ext SC 126 (VH .write):=⟨⟨Tryz.f126,by kernel_rfl,by kernel_rfl,by kernel_rfl,by kernel_rfl,by kernel_rfl⟩⟩
theorem OQ:Ext SC 127 WE:=⟨⟨Tryz.f127,by kernel_rfl,by kernel_rfl,by kernel_rfl,by kernel_rfl,by kernel_rfl⟩⟩
theorem OR:Ext SC 134 (XR (atl .add) .u64 true):=⟨⟨Tryz.f134,by kernel_rfl,by kernel_rfl,by kernel_rfl,by kernel_rfl,by kernel_rfl⟩⟩
theorem Ih:Ext SC 135 (X4 (.int .u64)):=⟨⟨Tryz.f135,by kernel_rfl,by kernel_rfl,by kernel_rfl,by kernel_rfl,by kernel_rfl⟩⟩
theorem agp:Ext SC 136 XS:=⟨⟨Tryz.f136,by kernel_rfl,by kernel_rfl,by kernel_rfl,by kernel_rfl,by kernel_rfl⟩⟩
theorem OS:Ext SC 137 (WU (.int .u64)):=⟨⟨Tryz.f137,by kernel_rfl,by kernel_rfl,by kernel_rfl,by kernel_rfl,by kernel_rfl⟩⟩
theorem acN:SC.underlying 158=some (.pointer 147):=by kernel_rfl
theorem GL:SC.underlying 160=some .unsafePointer:=by kernel_rfl
theorem i182:(SC.info? 147).map (λi=>decide (i.size=0))=some false:=by kernel_rfl
noncomputable def aoR:Ua:={(default:Ua)with fn:=184,defers:=[],mode:=.panicking [goexitEntry]}
noncomputable def aoN (fn:TO)(tmps:Array SO)(todo:List WT):Ua:={fn,tmps,todo,defers:=[],mode:=.returning,kind:=.deferred,roundOf:=none}
noncomputable def pW (Wg o:Nat):SO:=.pointer (some ⟨Wg,o,none⟩)
section
variable (Wg:Nat)(tmps:Array SO)(todo:List WT)
noncomputable def d0:SH:=G (Frame.enter SC 98 #[pW Wg 0] .deferred) [aoN 97 tmps todo,aoR]
noncomputable def d14:SH:=cx SC false 14 (d0 Wg tmps todo)
noncomputable def d15:SH:=fin (d14 Wg tmps todo) (pW Wg 0)
noncomputable def d16:SH:=fin (d15 Wg tmps todo) (.tuple #[])
noncomputable def d19:SH:=cx SC false 3 (d16 Wg tmps todo)
noncomputable def d20:SH:=fin (d19 Wg tmps todo) (.tuple #[])
noncomputable def d31:SH:=cx SC false 11 (d20 Wg tmps todo)
noncomputable def d32:SH:=fin (d31 Wg tmps todo) (.bool false)
noncomputable def d54:SH:=cx SC false 22 (d32 Wg tmps todo)
noncomputable def d55 (s:Int):SH:=fin (d54 Wg tmps todo) (.int .u64 s)
noncomputable def d158:SH:=cx SC false 103 (d55 Wg tmps todo 1)
noncomputable def d159:SH:=fin (d158 Wg tmps todo) (.int .u64 1)
noncomputable def d179:SH:=cx SC false 20 (d159 Wg tmps todo)
noncomputable def d180:SH:=fin (d179 Wg tmps todo) (.tuple #[])
noncomputable def A1:SH:=cx SC false 27 (d180 Wg tmps todo)
noncomputable def yl:SH:=fin (A1 Wg tmps todo) (.tuple #[])
set_option maxRecDepth 100000
variable (w:Tp)
theorem x0:(fw SC false w 14 (d0 Wg tmps todo),nX SC false 14 (d0 Wg tmps todo),bL (d14 Wg tmps todo),bL (d15 Wg tmps todo))=(fj SC false w 14 (d0 Wg tmps todo),true,true,true):=by kernel_rfl
theorem x14:ou (d14 Wg tmps todo)=some (158,160,pW Wg 0):=by kernel_rfl
theorem x15:cg (d15 Wg tmps todo)=some (110,#[pW Wg 0]):=by kernel_rfl
theorem GZ:(fw SC false w 3 (d16 Wg tmps todo),iA SC false 3 (d16 Wg tmps todo),bL (d19 Wg tmps todo),jv SC false 3 0 (d16 Wg tmps todo))=(fj SC false w 3 (d16 Wg tmps todo),true,true,0):=by kernel_rfl
theorem x19:cg (d19 Wg tmps todo)=some (111,#[]):=by kernel_rfl
theorem G2:(fw SC false w 11 (d20 Wg tmps todo),iA SC false 11 (d20 Wg tmps todo),bL (d31 Wg tmps todo),jv SC false 11 1 (d20 Wg tmps todo))=(fj SC false w 11 (d20 Wg tmps todo),true,true,1):=by kernel_rfl
theorem x31:cg (d31 Wg tmps todo)=some (113,#[]):=by kernel_rfl
theorem G4:(fw SC false w 22 (d32 Wg tmps todo),iA SC false 22 (d32 Wg tmps todo),bL (d54 Wg tmps todo),jv SC false 22 1 (d32 Wg tmps todo))=(fj SC false w 22 (d32 Wg tmps todo),true,true,1):=by kernel_rfl
theorem x54:cg (d54 Wg tmps todo)=some (134,#[pW Wg 0,.int .u64 18446744069414584320]):=by kernel_rfl
theorem q30:(fw SC false w 94 (d55 Wg tmps todo (3* 4294967296)),iA SC false 94 (d55 Wg tmps todo (3* 4294967296)),(cx SC false 94 (d55 Wg tmps todo (3* 4294967296))).status,jv SC false 94 1 (d55 Wg tmps todo (3* 4294967296)))=(fj SC false w 94 (d55 Wg tmps todo (3* 4294967296)),true,.finished,0):=by kernel_rfl
theorem q31:(fw SC false w 94 (d55 Wg tmps todo (3* 4294967296+1)),iA SC false 94 (d55 Wg tmps todo (3* 4294967296+1)),(cx SC false 94 (d55 Wg tmps todo (3* 4294967296+1))).status,jv SC false 94 1 (d55 Wg tmps todo (3* 4294967296+1)))=(fj SC false w 94 (d55 Wg tmps todo (3* 4294967296+1)),true,.finished,0):=by kernel_rfl
theorem q20:(fw SC false w 94 (d55 Wg tmps todo (2* 4294967296)),iA SC false 94 (d55 Wg tmps todo (2* 4294967296)),(cx SC false 94 (d55 Wg tmps todo (2* 4294967296))).status,jv SC false 94 1 (d55 Wg tmps todo (2* 4294967296)))=(fj SC false w 94 (d55 Wg tmps todo (2* 4294967296)),true,.finished,0):=by kernel_rfl
theorem q21:(fw SC false w 94 (d55 Wg tmps todo (2* 4294967296+1)),iA SC false 94 (d55 Wg tmps todo (2* 4294967296+1)),(cx SC false 94 (d55 Wg tmps todo (2* 4294967296+1))).status,jv SC false 94 1 (d55 Wg tmps todo (2* 4294967296+1)))=(fj SC false w 94 (d55 Wg tmps todo (2* 4294967296+1)),true,.finished,0):=by kernel_rfl
theorem q10:(fw SC false w 94 (d55 Wg tmps todo (1* 4294967296)),iA SC false 94 (d55 Wg tmps todo (1* 4294967296)),(cx SC false 94 (d55 Wg tmps todo (1* 4294967296))).status,jv SC false 94 1 (d55 Wg tmps todo (1* 4294967296)))=(fj SC false w 94 (d55 Wg tmps todo (1* 4294967296)),true,.finished,0):=by kernel_rfl
theorem q11:(fw SC false w 94 (d55 Wg tmps todo (1* 4294967296+1)),iA SC false 94 (d55 Wg tmps todo (1* 4294967296+1)),(cx SC false 94 (d55 Wg tmps todo (1* 4294967296+1))).status,jv SC false 94 1 (d55 Wg tmps todo (1* 4294967296+1)))=(fj SC false w 94 (d55 Wg tmps todo (1* 4294967296+1)),true,.finished,0):=by kernel_rfl
theorem q00:(fw SC false w 94 (d55 Wg tmps todo 0),iA SC false 94 (d55 Wg tmps todo 0),(cx SC false 94 (d55 Wg tmps todo 0)).status,jv SC false 94 1 (d55 Wg tmps todo 0))=(fj SC false w 94 (d55 Wg tmps todo 0),true,.finished,0):=by kernel_rfl
theorem G5:(fw SC false w 103 (d55 Wg tmps todo 1),iA SC false 103 (d55 Wg tmps todo 1),bL (d158 Wg tmps todo),jv SC false 103 1 (d55 Wg tmps todo 1))=(fj SC false w 103 (d55 Wg tmps todo 1),true,true,1):=by kernel_rfl
theorem arz:cg (d158 Wg tmps todo)=some (135,#[pW Wg 0]):=by kernel_rfl
theorem GY:(fw SC false w 20 (d159 Wg tmps todo),iA SC false 20 (d159 Wg tmps todo),bL (d179 Wg tmps todo),jv SC false 20 1 (d159 Wg tmps todo))=(fj SC false w 20 (d159 Wg tmps todo),true,true,1):=by kernel_rfl
theorem arA:cg (d179 Wg tmps todo)=some (136,#[pW Wg 0,.int .u64 0]):=by kernel_rfl
theorem G0:(fw SC false w 27 (d180 Wg tmps todo),iA SC false 27 (d180 Wg tmps todo),bL (A1 Wg tmps todo),jv SC false 27 1 (d180 Wg tmps todo))=(fj SC false w 27 (d180 Wg tmps todo),true,true,1):=by kernel_rfl
theorem arB:cg (A1 Wg tmps todo)=some (122,#[pW Wg 1,.bool false,.int .i64 0]):=by kernel_rfl
theorem G3:(fw SC false w 24 (yl Wg tmps todo),iA SC false 24 (yl Wg tmps todo),(cx SC false 24 (yl Wg tmps todo)).status,jv SC false 24 1 (yl Wg tmps todo))=(fj SC false w 24 (yl Wg tmps todo),true,.finished,0):=by kernel_rfl
theorem xm:mayWake SC (A1 Wg tmps todo)=true:=by kernel_rfl
end
section
variable (Wg:Nat)(tmps:Array SO)(todo:List WT)
theorem dN{α β γ δ:Type}{a a':α}{b b':β}{c c':γ}{d d':δ}(h:(a,b,c,d)=(a',b',c',d')):a=a'/\b=b'/\c=c'/\d=d':=by
 simpa[UZ]using h
theorem wC{s:Int}(h:∀w,(fw SC false w 94 (d55 Wg tmps todo s),iA SC false 94 (d55 Wg tmps todo s),(cx SC false 94 (d55 Wg tmps todo s)).status,jv SC false 94 1 (d55 Wg tmps todo s))=(fj SC false w 94 (d55 Wg tmps todo s),true,.finished,0)):∃q,Y7 SC q 1 (d55 Wg tmps todo s):=
 Gp 94 1 _ (λw=>(dN (h w)).1) (dN (h default)).2.1 (Mo (dN (h default)).2.2.1 (dN (h default)).2.2.2)
theorem agb:Df SC Wg 1 (A1 Wg tmps todo):=by
 refine⟨rfl,bL.out (dN (G0 Wg tmps todo default)).2.2.1,xm Wg tmps todo,yl Wg tmps todo,λw hw=> ?_,?_⟩
 ·exact apY (n:=0) (arB Wg tmps todo) agm hw.st.2.1 hw.st.2.2.2
 ·exact Gp 24 1 _ (λw=>(dN (G3 Wg tmps todo w)).1) (dN (G3 Wg tmps todo default)).2.1 (Mo (dN (G3 Wg tmps todo default)).2.2.1 (dN (G3 Wg tmps todo default)).2.2.2)
theorem agc:Dg SC Wg 1 (d179 Wg tmps todo):=by
 refine⟨rfl,bL.out (dN (GY Wg tmps todo default)).2.2.1,d180 Wg tmps todo,λw hw=> ?_,?_⟩
 ·exact ap0 (arA Wg tmps todo) agp hw.st.1 hw.st.2.2.1
 ·refine vW 27 1 _ (λw=>(dN (G0 Wg tmps todo w)).1) (dN (G0 Wg tmps todo default)).2.1 ?_;rw[(dN (G0 Wg tmps todo default)).2.2.2];exact⟨0,agb Wg tmps todo⟩
theorem aga:De SC Wg 1 (d158 Wg tmps todo):=by
 refine⟨rfl,bL.out (dN (G5 Wg tmps todo default)).2.2.1,d159 Wg tmps todo,λw hw=> ?_,?_⟩
 ·exact MH (arz Wg tmps todo) Ih hw.st.1
 ·refine vW 20 1 _ (λw=>(dN (GY Wg tmps todo w)).1) (dN (GY Wg tmps todo default)).2.1 ?_;rw[(dN (GY Wg tmps todo default)).2.2.2];exact⟨0,agc Wg tmps todo⟩
theorem af8:Aj SC Wg 1 (d54 Wg tmps todo):=by
 refine⟨rfl,bL.out (dN (G4 Wg tmps todo default)).2.2.1,λv wt ua hv=>⟨d55 Wg tmps todo ((v:Int)* KK+wt),λw hw=> ?_,λh=> ?_,λh=> ?_⟩⟩
 ·have e:TB.wrap ((((v+1:Nat):Int)* KK+wt)+18446744069414584320)=(v:Int)* KK+wt:=by
   have h1:TB.bits=64:=rfl;have h2:TB.signed=false:=rfl;unfold Xc KK;rw[h1,h2];simp;omega
  have:=ab4 (P:=SC) (main:=false) (w:=w) (x54 Wg tmps todo) OR hw.st.1 hw.st.2.2.1;rw[e]at this;exact this
 ·obtain⟨rfl,rfl⟩:=h;refine vW 103 1 _ (λw=>(dN (G5 Wg tmps todo w)).1) (dN (G5 Wg tmps todo default)).2.1 ?_;have e:=(dN (G5 Wg tmps todo default)).2.2.2;exact⟨0,by rw[show (((0:Nat):Int)* KK+((1:Nat):Int))=1 from rfl,e];exact aga Wg tmps todo⟩
 ·have hv4:v=0\/v=1\/v=2\/v=3:=by omega
  have gP:wt=0\/wt=1:=by omega
  rcases hv4 with rfl|rfl|rfl|rfl<;>rcases gP with rfl|rfl
  ·exact wC Wg tmps todo (q00 Wg tmps todo)
  ·exact absurd ⟨rfl,rfl⟩ h
  ·exact wC Wg tmps todo (q10 Wg tmps todo)
  ·exact wC Wg tmps todo (q11 Wg tmps todo)
  ·exact wC Wg tmps todo (q20 Wg tmps todo)
  ·exact wC Wg tmps todo (q21 Wg tmps todo)
  ·exact wC Wg tmps todo (q30 Wg tmps todo)
  ·exact wC Wg tmps todo (q31 Wg tmps todo)
theorem af9:Dl SC Wg (d15 Wg tmps todo):=by
 refine⟨bL.out (dN (x0 Wg tmps todo default)).2.2.2,d16 Wg tmps todo,λw=>GD .releaseMerge (λ_ _ h=>by cases h) (x15 Wg tmps todo) agj,?_⟩;refine vW 3 0 _ (λw=>(dN (GZ Wg tmps todo w)).1) (dN (GZ Wg tmps todo default)).2.1 ?_;rw[(dN (GZ Wg tmps todo default)).2.2.2];refine MD (g:=d19 Wg tmps todo) (g':=d20 Wg tmps todo) (bL.out (dN (GZ Wg tmps todo default)).2.2.1) (LI (.inl rfl)) (λw=>GC (λ_ h=>by cases h) (x19 Wg tmps todo) Ig) ?_;refine vW 11 1 (d20 Wg tmps todo) (λw=>(dN (G2 Wg tmps todo w)).1) (dN (G2 Wg tmps todo default)).2.1 ?_;rw[(dN (G2 Wg tmps todo default)).2.2.2];refine MD (es:=#[]) (g:=d31 Wg tmps todo) (g':=d32 Wg tmps todo) (bL.out (dN (G2 Wg tmps todo default)).2.2.1) (by simp) (λw=>ab5 (x31 Wg tmps todo) OP) ?_;refine vW 22 1 (d32 Wg tmps todo) (λw=>(dN (G4 Wg tmps todo w)).1) (dN (G4 Wg tmps todo default)).2.1 ?_;rw[(dN (G4 Wg tmps todo default)).2.2.2];exact⟨0,af8 Wg tmps todo⟩
theorem agd{J:View->SH->Prop}(C:xR SC false J){V:View}{c:Nat}(hr:V.role=.work c Wg [])(hd:V.deaf=0):J V (d0 Wg tmps todo):=by
 have C':Closed false SC false J:={C with more:=λh=>by cases h};have hx:=dN (x0 Wg tmps todo default);refine sE C' 14 _ (λw=>(dN (x0 Wg tmps todo w)).1) hx.2.1 ?_;refine C.slip V _ (d15 Wg tmps todo) c Wg hr (bL.out hx.2.2.1) (λw st hw hW=> ?_) (C.done V _ c Wg hr hd (af9 Wg tmps todo));exact GF (x14 Wg tmps todo) acN GL i182 hW.st.1
end
section
variable (Wg:Nat)(cs:List Ua)(main:Bool)
noncomputable def a0:SH:=G (Frame.enter SC 96 #[pW Wg 0,.int .i64 1] .normal) cs
noncomputable def Du:SH:=cx SC main 12 (a0 Wg cs)
noncomputable def AE:SH:=fin (Du Wg cs main) (.tuple #[])
noncomputable def Dv:SH:=cx SC main 11 (AE Wg cs main)
noncomputable def AG:SH:=fin (Dv Wg cs main) (.bool false)
noncomputable def Dw:SH:=cx SC main 22 (AG Wg cs main)
noncomputable def mG (s:Int):SH:=fin (Dw Wg cs main) (.int .u64 s)
noncomputable def mF (s:Int):SH:=cx SC main 87 (mG Wg cs main s)
noncomputable def Hu:SH:=cx SC main 52 (mG Wg cs main 4294967296)
noncomputable def AC:SH:=fin (Hu Wg cs main) (pW Wg 1)
noncomputable def AD:SH:=fin (AC Wg cs main) (.tuple #[])
noncomputable def AF:SH:=cx SC main 39 (AD Wg cs main)
set_option maxRecDepth 100000
variable (w:Tp)
theorem y0:(fw SC main w 12 (a0 Wg cs),nX SC main 12 (a0 Wg cs),bL (Du Wg cs main),cg (Du Wg cs main))=(fj SC main w 12 (a0 Wg cs),true,true,some (111,#[])):=by kernel_rfl
theorem y13:(fw SC main w 11 (AE Wg cs main),nX SC main 11 (AE Wg cs main),bL (Dv Wg cs main),cg (Dv Wg cs main))=(fj SC main w 11 (AE Wg cs main),true,true,some (113,#[])):=by kernel_rfl
theorem y25:(fw SC main w 22 (AG Wg cs main),nX SC main 22 (AG Wg cs main),bL (Dw Wg cs main),cg (Dw Wg cs main))=(fj SC main w 22 (AG Wg cs main),true,true,some (134,#[pW Wg 0,.int .u64 4294967296])):=by kernel_rfl
noncomputable def xy (g:SH):ZD×U5×Nat×Xe×List UV×Bool:=(.go (fX SC main g) w #[⟨.mark .enable,false,true⟩],(fX SC main g).frame.mode,(fX SC main g).frame.fn,(fX SC main g).frame.kind,(fX SC main g).frame.defers,bL (fX SC main g))
theorem Nb:(fw SC main w 87 (mG Wg cs main (2* 4294967296)),nX SC main 87 (mG Wg cs main (2* 4294967296)),bL (mF Wg cs main (2* 4294967296)),xy main w (mF Wg cs main (2* 4294967296)))=(fj SC main w 87 (mG Wg cs main (2* 4294967296)),true,true,stepG SC main (mF Wg cs main (2* 4294967296)) w,.returning,96,.normal,[],true):=by kernel_rfl
theorem Nc:(fw SC main w 87 (mG Wg cs main (3* 4294967296)),nX SC main 87 (mG Wg cs main (3* 4294967296)),bL (mF Wg cs main (3* 4294967296)),xy main w (mF Wg cs main (3* 4294967296)))=(fj SC main w 87 (mG Wg cs main (3* 4294967296)),true,true,stepG SC main (mF Wg cs main (3* 4294967296)) w,.returning,96,.normal,[],true):=by kernel_rfl
theorem Nd:(fw SC main w 87 (mG Wg cs main (4* 4294967296)),nX SC main 87 (mG Wg cs main (4* 4294967296)),bL (mF Wg cs main (4* 4294967296)),xy main w (mF Wg cs main (4* 4294967296)))=(fj SC main w 87 (mG Wg cs main (4* 4294967296)),true,true,stepG SC main (mF Wg cs main (4* 4294967296)) w,.returning,96,.normal,[],true):=by kernel_rfl
theorem ac1:(fw SC main w 52 (mG Wg cs main 4294967296),nX SC main 52 (mG Wg cs main 4294967296),bL (Hu Wg cs main),ou (Hu Wg cs main))=(fj SC main w 52 (mG Wg cs main 4294967296),true,true,some (165,160,pW Wg 1)):=by kernel_rfl
theorem arC:cg (AC Wg cs main)=some (118,#[pW Wg 1]):=by kernel_rfl
theorem Na:(fw SC main w 39 (AD Wg cs main),nX SC main 39 (AD Wg cs main),bL (AF Wg cs main),xy main w (AF Wg cs main))=(fj SC main w 39 (AD Wg cs main),true,true,stepG SC main (AF Wg cs main) w,.returning,96,.normal,[],true):=by kernel_rfl
theorem yr1:bL (AC Wg cs main)=true:=by kernel_rfl
theorem GM:∃t,SC.underlying 165=some (.pointer t)/\(SC.info? t).map (λi=>decide (i.size=0))=some false:=⟨145,by kernel_rfl,by kernel_rfl⟩
theorem ahd:∃fn,SC.funcs[96]?=some fn/\fn.results=#[]:=⟨Tryz.f96,by kernel_rfl,by kernel_rfl⟩
end
section
variable {P:SJ}{V:View}
theorem ap8{w:Tp}{b o:Nat}{v:SO}{c:Array SO}{el:TypeId}(hw:Sat V w)(ho:V.own b=some (.cells c el (0,0)))(cu:V.ab b o=none)(JG:V.role.chan≠some b):
  cV V w (V.upd b (.cells (c.setIfInBounds o v) el (0,0))) (w.setCell ⟨b,o,none⟩ v) #[⟨.cell ⟨b,o,none⟩,false,true⟩,⟨.cell ⟨b,o,none⟩,true,true⟩]:=by
 refine⟨hw.acR ho cu,rfl,rfl,rfl,by rw[CP];exact SQ _,λb' du e=>vr _ _ _ (λx=> ?_),λb' du e=> ?_,λ_ _ _ e=>e,λ_ _ _ e=> .inl e,λev cj=> ?_,by simp[deafBehind];rfl,rfl,λc' x bf e=>by rw[<- e];simp only[View.upd,ite_eq_right_iff];intro x';subst x';exact absurd bf JG,λev cj=> ?_⟩
 ·have x':b=b':=x;subst x';rw[ho]at e;cases e
 ·have:b'≠b:=by intro x;subst x;rw[ho]at e;cases e
  simp only[View.upd,this,if_false];exact e
 ·simp only[TJ,SL,S0,or_false]at cj;rcases cj with rfl|rfl
  ·exact⟨.inr (.inl (by show V.own b≠none;rw[ho];simp)),.inl rfl⟩
  ·exact⟨.inr ⟨by show V.own b≠none;rw[ho];simp,cu⟩,.inl rfl⟩
 ·simp only[TJ,SL,S0,or_false]at cj;rcases cj with rfl|rfl<;>(show b<_;rw[CP];exact hw.lt ho)
theorem Closed.said{lv main:Bool}{J:View->SH->Prop}(C:Closed lv P main J){g g':SH}{a:U2}(hr:g.status=.running)(ha:V.own a.block≠none/\V.ab a.block a.off=none)(h:∀w,stepG P main g w=.go g' w #[⟨.mark (.read a),false,true⟩]) (hJ:J V g'):J V g:=by
 refine C.step _ _ hr λw hw=> ?_;have hs:=apu (P:=P) (V:=V) (k:=(.pure ():Sem Unit)) (K:=λ_ V'=>V'=V) (Kp:=λ_ _=>False) (m:=.read a) (.inl rfl) ha (cD rfl);obtain⟨es,w',V',k1,k2,k3⟩:=hs.runs hw;rcases k3 with⟨x,k3,rfl⟩|⟨_,_,hx⟩
 ·have e1:Yi () w=Yi x w':=k3;have e2:es=#[⟨.mark (.read a),false,true⟩]:=k2.symm;cases e1;subst e2;refine⟨g',w,_,_,h w,?_,hJ⟩;rwa [sH (by simp)]at k1
 ·exact hx.elim
end
section
variable (Wg:Nat)(cs:List Ua)(main:Bool)
set_option maxRecDepth 100000
theorem yG2:fX SC main (mF Wg cs main (2* 4294967296))=G (fX SC main (mF Wg cs main (2* 4294967296))).frame cs:=by kernel_rfl
theorem yG3:fX SC main (mF Wg cs main (3* 4294967296))=G (fX SC main (mF Wg cs main (3* 4294967296))).frame cs:=by kernel_rfl
theorem yG4:fX SC main (mF Wg cs main (4* 4294967296))=G (fX SC main (mF Wg cs main (4* 4294967296))).frame cs:=by kernel_rfl
theorem yG1:fX SC main (AF Wg cs main)=G (fX SC main (AF Wg cs main)).frame cs:=by kernel_rfl
end
theorem kg{α β γ δ:Type}{a a':α}{b b':β}{c c':γ}{d d':δ}(h:(a,b,c,d)=(a',b',c',d')):a=a'/\b=b'/\c=c'/\d=d':=by
 simpa[UZ]using h
section
variable {lv main:Bool}{J:View->SH->Prop}{V:View}{cs:List Ua}
theorem Dz(C:Closed lv SC main J){g:SH}{U:View}(bF:bL g=true)(h:∀w,(Go.Gg.xy main w g)=(stepG SC main g w,.returning,96,.normal,[],true))(hG:fX SC main g=G (fX SC main g).frame cs)
  (hU:U={V with deaf:=deafBehind V.deaf #[⟨.mark .enable,false,true⟩]}) (hJ:∀fr,Leaves SC fr 96 .normal (.ret (.tuple #[])) U->J U (G fr cs)):J V g:=by
 refine C.mute (.inr rfl) (bL.out bF) (λw=> ?_) (g':=fX SC main g) ?_
 ·have:=h w;simp only[Go.Gg.xy,UZ]at this;exact this.1.symm
 ·have:=h default;simp only[Go.Gg.xy,UZ]at this;obtain⟨_,h1,h2,h3,h4,_⟩:=this;rw[hG,<- hU];refine hJ _ ⟨h2,h4,h3,?_⟩;obtain⟨fn,hf,hr⟩:=ahd;exact⟨fn,hf,h1,results_none hr⟩
theorem ad7{n Wg:Nat}{sm:TypeId}(hn:n<4)(hW:V.own Wg=some (.cells #[.int .u64 ((n:Int)* KK),.int .u32 0] sm (0,0))) (hi:∀o,V.ab Wg o=none) (hc:V.role.chan≠some Wg) (hd:V.deaf=0):
  Body lv SC 96 #[pW Wg 0,.int .i64 1] .normal V (λo V'=>o=.ret (.tuple #[])/\V'=V.upd Wg (.cells #[.int .u64 (((n+1:Nat):Int)* KK),.int .u32 0] sm (0,0))):=by
 intro main J C cs hJ;have hA:=kg (y0 Wg cs main default);show J V (a0 Wg cs);refine sE C 12 _ (λw=>(kg (y0 Wg cs main w)).1) hA.2.1 ?_;refine C.mute (g:=Du Wg cs main) (g':=AE Wg cs main) (.inl rfl) (bL.out hA.2.2.1) (λw=>GC (λ_ h=>by cases h) hA.2.2.2 Ig) ?_;have hB:=kg (y13 Wg cs main default);refine sE C 11 _ (λw=>(kg (y13 Wg cs main w)).1) hB.2.1 ?_;refine C.idle (g:=Dv Wg cs main) (g':=AG Wg cs main) (bL.out hB.2.2.1) (λw=>ab5 hB.2.2.2 OP) ?_;have hC:=kg (y25 Wg cs main default);refine sE C 22 _ (λw=>(kg (y25 Wg cs main w)).1) hC.2.1 ?_;let V1:View:={V with deaf:=deafBehind V.deaf #[⟨.mark .disable,false,true⟩]};let V2:View:=V1.upd Wg (.cells #[.int .u64 (((n+1:Nat):Int)* KK),.int .u32 0] sm (0,0));have yG:{V2 with deaf:=deafBehind V2.deaf #[⟨.mark .enable,false,true⟩]}=V.upd Wg (.cells #[.int .u64 (((n+1:Nat):Int)* KK),.int .u32 0] sm (0,0)):=by
  obtain⟨i,o,d,r⟩:=V;have:d=0:=hd;subst this;rfl
 show J V1 (Dw Wg cs main);refine C.step _ _ (bL.out hC.2.2.1) λw hw=> ?_;have hh:=hw.own Wg _ hW;have da:w.cell? ⟨Wg,0,none⟩=some (.int .u64 ((n:Int)* KK)):=by simp[Ux,hh]
 have Fz:w.frozen? ⟨Wg,0,none⟩=false:=by simp[ZQ,hh]
 have hs:=ab4 (P:=SC) (main:=main) (w:=w) hC.2.2.2 OR da Fz;have e:TB.wrap (((n:Int)* KK)+4294967296)=((n+1:Nat):Int)* KK:=by
  have h1:TB.bits=64:=rfl;have h2:TB.signed=false:=rfl;unfold Xc KK;rw[h1,h2];simp;omega
 rw[e]at hs;refine⟨mG Wg cs main (((n+1:Nat):Int)* KK),_,_,V2,hs,?_,?_⟩
 ·exact ap8 (V:=V1) hw hW (hi 0) hc
 have Rc:n=0\/n=1\/n=2\/n=3:=by omega
 rcases Rc with rfl|rfl|rfl|rfl
 ·have hD:=kg (ac1 Wg cs main default);refine sE C 52 _ (λw=>(kg (ac1 Wg cs main w)).1) hD.2.1 ?_;obtain⟨t,ht1,Fh⟩:=GM;have P7:V2.own Wg=some (.cells #[.int .u64 (((0+1:Nat):Int)* KK),.int .u32 0] sm (0,0)):=by simp[V2,View.upd]
  refine C.step _ _ (bL.out hD.2.2.1) λw hw=>⟨AC Wg cs main,w,#[],V2,?_,.idle hw,?_⟩
  ·have hh:=hw.own Wg _ P7;exact GF hD.2.2.2 ht1 GL Fh (v:=.int .u32 0) (by simp[Ux,hh])
  refine C.said (g:=AC Wg cs main) (g':=AD Wg cs main) (a:=⟨Wg,1,none⟩) (bL.out (yr1 Wg cs main)) ⟨by show V2.own Wg≠none;rw[P7];simp,hi 1⟩ (λw=>GD .read (λ_ _ h=>by cases h) (arC Wg cs main) agl) ?_;have hE:=kg (Na Wg cs main default);refine sE C 39 _ (λw=>(kg (Na Wg cs main w)).1) hE.2.1 ?_;exact Dz C hE.2.2.1 (λw=>(kg (Na Wg cs main w)).2.2.2) (yG1 Wg cs main) yG.symm λfr hl=>hJ _ _ fr ⟨rfl,rfl⟩ hl
 ·have hE:=kg (Nb Wg cs main default);refine sE C 87 _ (λw=>(kg (Nb Wg cs main w)).1) hE.2.1 ?_;exact Dz C hE.2.2.1 (λw=>(kg (Nb Wg cs main w)).2.2.2) (yG2 Wg cs main) yG.symm λfr hl=>hJ _ _ fr ⟨rfl,rfl⟩ hl
 ·have hE:=kg (Nc Wg cs main default);refine sE C 87 _ (λw=>(kg (Nc Wg cs main w)).1) hE.2.1 ?_;exact Dz C hE.2.2.1 (λw=>(kg (Nc Wg cs main w)).2.2.2) (yG3 Wg cs main) yG.symm λfr hl=>hJ _ _ fr ⟨rfl,rfl⟩ hl
 ·have hE:=kg (Nd Wg cs main default);refine sE C 87 _ (λw=>(kg (Nd Wg cs main w)).1) hE.2.1 ?_;exact Dz C hE.2.2.1 (λw=>(kg (Nd Wg cs main w)).2.2.2) (yG4 Wg cs main) yG.symm λfr hl=>hJ _ _ fr ⟨rfl,rfl⟩ hl
end
section
variable {P:SJ}{main:Bool}{g:SH}{w:Tp}
def um (g:SH):Option (TypeId×SO):=match ready g with
 |some {op:=.load t x, .. }=>some (t,g.frame.eval x)
 |_=>none
theorem apW{t:TypeId}{d:TypeDesc}{ad:U2}{v:SO}(h:um g=some (t,.pointer (some ad)))(ht:P.underlying t=some d)(hd:TypeDesc.agg d=false)(hq:(P.funcs[g.frame.fn]?).any (·.norace)=false)(hc:w.cell? ad=some v):
  stepG P main g w=.go (fin g v) w #[⟨.cell ad,false,false⟩]:=by
 obtain⟨o,x,h1,h2,h3⟩:∃o x,ready g=some o/\o.op=.load t x/\g.frame.eval x=.pointer (some ad):=by
  unfold um at h;split at h
  ·rename_i s x _ _ _ _ ho;simp only[Tl,UZ]at h;obtain⟨rfl,h⟩:=h;exact⟨_,x,ho,rfl,h⟩
  ·cases h
 obtain⟨b,a,ops,i,rest,kk,cs,e,q1,q2,q3,q4,q5,q6,_⟩:=ready.out h1;rw[<- q4]at h3;rw[<- q5];refine VI (congrArg (λx=>stepG P main x w) e) ?_;have e1:execOp a.eval o=(do let v<- XD t (.pointer (some ad));pure (.value v)):=by
  unfold execOp;simp only[h2,h3]
 have e2:(isAgg t:Sem Bool).run P w=.ok false w/\∀es,(isAgg t:Sem Bool).events P w es=es:=by
  unfold isAgg Go.underlying;cases d<;>first
   |(exact(Bool.noConfusion hd))
   |(constructor<;>simp[go_sem,ht])
 have hr:(execOp a.eval o).run P w=.ok (.value v) w:=by
  rw[e1];simp[XD,U_,loadVar,e2.1,hc]
 have cj:(execOp a.eval o).events P w #[]=#[⟨.cell ad,false,false⟩]:=by
  rw[e1];simp[XD,U_,loadVar,e2.1,e2.2,hc]
 rw[atd q1 q2 q3 hr];unfold listed;rw[cj,seen_eq (by rw[q6];exact hq) (by intro e he f;simp only[TJ,SL,S0,or_false]at he;rw[he];simp)]
def wA (g:SH):Option SO:=match ready g with
 |some {op:=.call {callee:=.builtin .close,args, .. }, .. }=>match args.toList with
  |[x]=>some (g.frame.eval x)
  |_=>none
 |_=>none
theorem apV{c cap s r:Nat}{DR:Array SO}{tm:Bool}(h:wA g=some (.chan (some c)))(hq:(P.funcs[g.frame.fn]?).any (·.norace)=false)(hc:w.heap[c]?=some (.chan cap DR false s r tm)):
  stepG P main g w=.go (fin g (.tuple #[])) {w with heap:=w.heap.setIfInBounds c (.chan cap DR true s r tm)} #[⟨.obj c,false,true⟩,⟨.obj c,true,true⟩]:=by
 obtain⟨o,x,lD,h1,h2,h3⟩:∃o x lD,ready g=some o/\o.op=.call {callee:=.builtin .close,args:=#[x],argTypes:=lD}/\g.frame.eval x=.chan (some c):=by
  unfold wA at h;split at h
  ·rename_i dst xs lD ty pos af gd ho;split at h
   ·rename_i x hx;have:xs=#[x]:=(by apply Vz;simpa using hx);subst this;exact⟨_,x,_,ho,rfl,by simpa using h⟩
   ·cases h
  ·cases h
 obtain⟨b,a,ops,i,rest,kk,cs,e,q1,q2,q3,q4,q5,q6,_⟩:=ready.out h1;rw[<- q4]at h3;rw[<- q5];refine VI (congrArg (λx=>stepG P main x w) e) ?_;exact stepG_close q1 q2 q3 h2 h3 hc (by rw[q6];exact hq)
end
section
variable (Wg fc c:Nat)
noncomputable def e0:SH:=born SC ⟨.fn (.func 100) #[pW Wg 0,pW fc 0],#[]⟩
noncomputable def e7:SH:=cx SC false 7 (e0 Wg fc)
noncomputable def e8:SH:=fin (e7 Wg fc) (.tuple #[])
noncomputable def e27:SH:=cx SC false 19 (e8 Wg fc)
noncomputable def f76 (h:SH)(v:Int):SH:=cx SC false 48 (fin h (.int .u64 v))
noncomputable def LA (b:SH):SH:=cx SC false 25 (fin b (.bool false))
noncomputable def f96 (b:SH):SH:=cx SC false 19 (fin b (.bool true))
noncomputable def f97 (b:SH):SH:=fin (f96 b) (pW Wg 1)
noncomputable def f121 (b:SH):SH:=cx SC false 23 (fin (f97 Wg b) (.tuple #[]))
noncomputable def f138 (b:SH):SH:=cx SC false 16 (fin (f121 Wg b) (.tuple #[]))
noncomputable def f150 (b:SH):SH:=cx SC false 11 (fin (f138 Wg b) (.int .u64 0))
noncomputable def f154 (b:SH):SH:=cx SC false 3 (fin (f150 Wg b) (.tuple #[]))
noncomputable def f155 (b:SH):SH:=fin (f154 Wg b) (pW Wg 0)
noncomputable def f168 (b:SH):SH:=cx SC false 12 (fin (f155 Wg b) (.tuple #[]))
noncomputable def f169 (b:SH):SH:=fin (f168 Wg b) (.chan (some c))
noncomputable def f170 (b:SH):SH:=fin (f169 Wg c b) (.tuple #[])
noncomputable def xQ (h:SH):SH:=cx SC false 31 (fin h (.int .u64 0))
noncomputable def Nf (h:SH):SH:=cx SC false 3 (fin (xQ h) (.tuple #[]))
noncomputable def uA (h:SH):SH:=fin (Nf h) (pW Wg 0)
noncomputable def C_ (h:SH):SH:=cx SC false 22 (fin (uA Wg h) (.tuple #[]))
noncomputable def uB (h:SH):SH:=fin (C_ Wg h) (.chan (some c))
noncomputable def G9 (h:SH):SH:=fin (uB Wg c h) (.tuple #[])
noncomputable def hd:List Int->SH
 |[]=>e27 Wg fc
 |v::l=>LA (f76 (hd l) v)
noncomputable def bd (l:List Int)(v:Int):SH:=f76 (hd Wg fc l) v
noncomputable def e_ (w:Tp)(n d:Nat)(g:SH):List ZD×Bool×Bool×Nat:=(fw SC false w n g,iA SC false n g,bL (cx SC false n g),jv SC false n d g)
noncomputable def e9 (w:Tp)(n d:Nat)(g:SH):List ZD×Bool×Bool×Nat:=(fj SC false w n g,true,true,d)
noncomputable def yp (w:Tp)(n:Nat)(g:SH):List ZD×Bool×GoStatus×Nat:=(fw SC false w n g,iA SC false n g,(cx SC false n g).status,jv SC false n 0 g)
noncomputable def yo (w:Tp)(n:Nat)(g:SH):List ZD×Bool×GoStatus×Nat:=(fj SC false w n g,true,.finished,0)
noncomputable def pM (g:SH):Bool:= !(SC.funcs[g.frame.fn]?).any (·.norace)
noncomputable def zT (w:Tp)(h:SH):=(cg h,bL h,e_ w 31 1 (fin h (.int .u64 0)),cg (xQ h),e_ w 3 0 (fin (xQ h) (.tuple #[])),ou (Nf h),cg (uA Wg h),bL (uA Wg h),e_ w 22 0 (fin (uA Wg h) (.tuple #[])),um (C_ Wg h),pM (C_ Wg h),wA (uB Wg c h),pM (uB Wg c h),bL (uB Wg c h),mayWake SC (uB Wg c h),yp w 4 (G9 Wg c h))
noncomputable def zR (w:Tp)(h:SH):=(some ((135:TO),#[pW Wg 0]),true,e9 w 31 1 (fin h (.int .u64 0)),some ((112:TO),(#[]:Array SO)),e9 w 3 0 (fin (xQ h) (.tuple #[])),some ((158:TypeId),(160:TypeId),pW Wg 0),some ((123:TO),#[pW Wg 0]),true,e9 w 22 0 (fin (uA Wg h) (.tuple #[])),some ((139:TypeId),pW fc 0),true,some (XP (some c)),true,true,true,yo w 4 (G9 Wg c h))
noncomputable def fT (w:Tp)(b:SH):=(cg b,bL b,e_ w 25 1 (fin b (.bool false)),e_ w 19 1 (fin b (.bool true)),ou (f96 b),cg (f97 Wg b),bL (f97 Wg b),e_ w 23 1 (fin (f97 Wg b) (.tuple #[])),cg (f121 Wg b),(f121 Wg b).offers,e_ w 16 1 (fin (f121 Wg b) (.tuple #[])),cg (f138 Wg b),e_ w 11 1 (fin (f138 Wg b) (.int .u64 0)),cg (f150 Wg b),e_ w 3 0 (fin (f150 Wg b) (.tuple #[])),ou (f154 Wg b),cg (f155 Wg b),bL (f155 Wg b),e_ w 12 0 (fin (f155 Wg b) (.tuple #[])),um (f168 Wg b),pM (f168 Wg b),wA (f169 Wg c b),pM (f169 Wg c b),bL (f169 Wg c b),mayWake SC (f169 Wg c b),yp w 4 (f170 Wg c b))
noncomputable def fR (w:Tp)(b:SH)(v:Int):=(some ((137:TO),#[pW Wg 0,.int .u64 v,.int .u64 (v+1)]),true,e9 w 25 1 (fin b (.bool false)),e9 w 19 1 (fin b (.bool true)),some ((165:TypeId),(160:TypeId),pW Wg 1),some ((126:TO),#[pW Wg 1]),true,e9 w 23 1 (fin (f97 Wg b) (.tuple #[])),some ((127:TO),#[pW Wg 1,.bool false]),(none:Option (Array CommCase×CommShape)),e9 w 16 1 (fin (f121 Wg b) (.tuple #[])),some ((135:TO),#[pW Wg 0]),e9 w 11 1 (fin (f138 Wg b) (.int .u64 0)),some ((112:TO),(#[]:Array SO)),e9 w 3 0 (fin (f150 Wg b) (.tuple #[])),some ((158:TypeId),(160:TypeId),pW Wg 0),some ((123:TO),#[pW Wg 0]),true,e9 w 12 0 (fin (f155 Wg b) (.tuple #[])),some ((139:TypeId),pW fc 0),true,some (XP (some c)),true,true,true,yo w 4 (f170 Wg c b))
set_option maxRecDepth 100000
theorem c0(w:Tp):(e_ w 7 0 (e0 Wg fc),cg (e7 Wg fc),e_ w 19 1 (e8 Wg fc))=(e9 w 7 0 (e0 Wg fc),some ((111:TO),(#[]:Array SO)),e9 w 19 1 (e8 Wg fc)):=by kernel_rfl
noncomputable def pT (w:Tp)(l:List Int)(v:Int):=(e_ w 48 1 (fin (hd Wg fc l) (.int .u64 v)),fT Wg c w (bd Wg fc l v),zT Wg c w (hd Wg fc (v::l)))
noncomputable def pR (w:Tp)(l:List Int)(v:Int):=(e9 w 48 1 (fin (hd Wg fc l) (.int .u64 v)),fR Wg fc c w (bd Wg fc l v) v,zR Wg fc c w (hd Wg fc (v::l)))
theorem zz(w:Tp):zT Wg c w (hd Wg fc [])=zR Wg fc c w (hd Wg fc []):=by kernel_rfl
theorem Mj(w:Tp):pT Wg fc c w [] (4* 4294967296)=pR Wg fc c w [] (4* 4294967296):=by kernel_rfl
theorem Mi(w:Tp):pT Wg fc c w [4* 4294967296] (3* 4294967296)=pR Wg fc c w [4* 4294967296] (3* 4294967296):=by kernel_rfl
theorem Mf(w:Tp):pT Wg fc c w [3* 4294967296,4* 4294967296] (2* 4294967296)=pR Wg fc c w [3* 4294967296,4* 4294967296] (2* 4294967296):=by kernel_rfl
theorem L9(w:Tp):pT Wg fc c w [2* 4294967296,3* 4294967296,4* 4294967296] (1* 4294967296)=pR Wg fc c w [2* 4294967296,3* 4294967296,4* 4294967296] (1* 4294967296):=by kernel_rfl
theorem Mb(w:Tp):pT Wg fc c w [3* 4294967296,4* 4294967296] (1* 4294967296)=pR Wg fc c w [3* 4294967296,4* 4294967296] (1* 4294967296):=by kernel_rfl
theorem Mg(w:Tp):pT Wg fc c w [4* 4294967296] (2* 4294967296)=pR Wg fc c w [4* 4294967296] (2* 4294967296):=by kernel_rfl
theorem L_(w:Tp):pT Wg fc c w [2* 4294967296,4* 4294967296] (1* 4294967296)=pR Wg fc c w [2* 4294967296,4* 4294967296] (1* 4294967296):=by kernel_rfl
theorem Mc(w:Tp):pT Wg fc c w [4* 4294967296] (1* 4294967296)=pR Wg fc c w [4* 4294967296] (1* 4294967296):=by kernel_rfl
theorem Mh(w:Tp):pT Wg fc c w [] (3* 4294967296)=pR Wg fc c w [] (3* 4294967296):=by kernel_rfl
theorem Me(w:Tp):pT Wg fc c w [3* 4294967296] (2* 4294967296)=pR Wg fc c w [3* 4294967296] (2* 4294967296):=by kernel_rfl
theorem L8(w:Tp):pT Wg fc c w [2* 4294967296,3* 4294967296] (1* 4294967296)=pR Wg fc c w [2* 4294967296,3* 4294967296] (1* 4294967296):=by kernel_rfl
theorem Ma(w:Tp):pT Wg fc c w [3* 4294967296] (1* 4294967296)=pR Wg fc c w [3* 4294967296] (1* 4294967296):=by kernel_rfl
theorem Md(w:Tp):pT Wg fc c w [] (2* 4294967296)=pR Wg fc c w [] (2* 4294967296):=by kernel_rfl
theorem L7(w:Tp):pT Wg fc c w [2* 4294967296] (1* 4294967296)=pR Wg fc c w [2* 4294967296] (1* 4294967296):=by kernel_rfl
theorem L6(w:Tp):pT Wg fc c w [] (1* 4294967296)=pR Wg fc c w [] (1* 4294967296):=by kernel_rfl
end
section
variable {P:SJ}{Wg:Nat}{Stop:Nat->SH->Prop}
theorem OX{n d d':Nat}{g:SH}(h:∀w,e_ w n d g=e9 w n d' g):(∀w,fw SC false w n g=fj SC false w n g)/\iA SC false n g=true/\bL (cx SC false n g)=true/\jv SC false n d g=d':=
 ⟨λw=>(dN (h w)).1,(dN (h default)).2.1,(dN (h default)).2.2.1,(dN (h default)).2.2.2⟩
theorem wF{n d d':Nat}{g:SH}(h:∀w,e_ w n d g=e9 w n d' g)(hs:∃m,cL SC Stop m d' (cx SC false n g)):∃m,cL SC Stop m d g:=by
 obtain⟨h1,h2,_,h4⟩:=OX h;exact vW n d g h1 h2 (by rw[h4];exact hs)
theorem Ir{n d d':Nat}{g:SH}(h:∀w,e_ w n d g=e9 w n d' g)(hs:∃m,gJ SC Wg Stop m d' (cx SC false n g)):∃m,gJ SC Wg Stop m d g:=by
 obtain⟨h1,h2,_,h4⟩:=OX h;exact ab0 n d g h1 h2 (by rw[h4];exact hs)
theorem agK{n:Nat}{g:SH}(h:∀w,yp w n g=yo w n g):∃q,Y7 SC q 0 g:=
 Gp n 0 g (λw=>(dN (h w)).1) (dN (h default)).2.1 (Mo (dN (h default)).2.2.1 (dN (h default)).2.2.2)
theorem apF{d:Nat}{g g':SH}{es:Array Uq}(hr:g.status=.running)(hm:∀e∈es,WF e=true)(h:∀w,stepG P false g w=.go g' w es)(hs:∃m,gJ P Wg Stop m (deafBehind d es) g'):∃m,gJ P Wg Stop m d g:=by
 obtain⟨m,fG⟩:=hs;exact⟨m+1,.inr ⟨hr,g',es,hm,λw _ _ _=>h w,fG⟩⟩
end
set_option maxRecDepth 100000
theorem t173:(SC.underlying 139).map TypeDesc.agg=some false:=by kernel_rfl
theorem Mp{g:SH}{o:Tv}(h:ready g=some o):bL g=true:=by
 obtain⟨_,_,_,_,_,_,_,_,_,_,_,_,_,_,hr⟩:=ready.out h;unfold bL;rw[hr]
theorem yg{g:SH}{f:TO}{vs:Array SO}(h:cg g=some (f,vs)):bL g=true:=by
 obtain⟨_,_,_,h1,_,_⟩:=cg.out h;exact Mp h1
theorem Oj{g:SH}{s d:TypeId}{v:SO}(h:ou g=some (s,d,v)):bL g=true:=by
 unfold ou at h;split at h
 ·rename_i ho;exact Mp ho
 ·cases h
theorem amb{g:SH}{t:TypeId}{v:SO}(h:um g=some (t,v)):bL g=true:=by
 unfold um at h;split at h
 ·rename_i ho;exact Mp ho
 ·cases h
section
variable {Wg fc c:Nat}{Im:cm}
theorem Nz{n:Nat}{g:SH}(hi:Im fc 0=some (.chan (some c)))(h1:cg g=some (123,#[pW Wg 0])) (h3:∀w,e_ w n 0 (fin g (.tuple #[]))=e9 w n 0 (fin g (.tuple #[])))
  (h4:um (cx SC false n (fin g (.tuple #[])))=some (139,pW fc 0)) (h5:pM (cx SC false n (fin g (.tuple #[])))=true)
  (h6:wA (fin (cx SC false n (fin g (.tuple #[]))) (.chan (some c)))=some (.chan (some c))) (h7:pM (fin (cx SC false n (fin g (.tuple #[]))) (.chan (some c)))=true) (h8:bL (fin (cx SC false n (fin g (.tuple #[]))) (.chan (some c)))=true)
  (h9:mayWake SC (fin (cx SC false n (fin g (.tuple #[]))) (.chan (some c)))=true) (h10:∀w,yp w 4 (fin (fin (cx SC false n (fin g (.tuple #[]))) (.chan (some c))) (.tuple #[]))=yo w 4 (fin (fin (cx SC false n (fin g (.tuple #[]))) (.chan (some c))) (.tuple #[]))):sS SC Im c Wg 0 g:=by
 refine⟨rfl,bL.out (yg h1),_,λw=>GD .acquire (λ_ _ h=>by cases h) h1 agn,?_⟩;refine wF h3 ⟨0,rfl,bL.out (amb h4),fc,0,_,_,hi,λw hc=> ?_,0,rfl,bL.out h8,h9,_,λw s hw=> ?_,agK h10⟩
 ·obtain⟨d,di,kC⟩:=Tq.1 t173;exact apW h4 di kC (by simpa[pM]using h5) hc
 ·exact apV h6 (by simpa[pM]using h7) hw
theorem Sp{n1 n2:Nat}{g:SH}(h1:∀w,e_ w n1 1 g=e9 w n1 1 g)(h2:cg (cx SC false n1 g)=some (112,#[])) (h3:∀w,e_ w n2 0 (fin (cx SC false n1 g) (.tuple #[]))=e9 w n2 0 (fin (cx SC false n1 g) (.tuple #[])))
  (h4:ou (cx SC false n2 (fin (cx SC false n1 g) (.tuple #[])))=some (158,160,pW Wg 0)) (h5:sS SC Im c Wg 0 (fin (cx SC false n2 (fin (cx SC false n1 g) (.tuple #[]))) (pW Wg 0))):∃n,gJ SC Wg (sS SC Im c Wg) n 1 g:=by
 refine Ir h1 ?_;refine apF (bL.out (yg h2)) (LI (.inr rfl)) (λw=>GC (λ_ h=>by cases h) h2 agk) ?_;refine Ir (d:=deafBehind 1 #[⟨.mark .enable,false,true⟩]) h3 ?_;exact ab1 (bL.out (Oj h4)) (λw x y hW=>GF h4 acN GL i182 hW.st.1) ⟨0,h5⟩
theorem arF{h:SH}(hi:Im fc 0=some (.chan (some c)))(H:∀w,zT Wg c w h=zR Wg fc c w h):cg h=some (135,#[pW Wg 0])/\∃n,gJ SC Wg (sS SC Im c Wg) n 1 (fin h (.int .u64 0)):=by
 have key:∀w,cg h=some ((135:TO),#[pW Wg 0])/\bL h=true/\e_ w 31 1 (fin h (.int .u64 0))=e9 w 31 1 (fin h (.int .u64 0))/\cg (xQ h)=some ((112:TO),(#[]:Array SO))/\e_ w 3 0 (fin (xQ h) (.tuple #[]))=e9 w 3 0 (fin (xQ h) (.tuple #[]))/\ou (Nf h)=some ((158:TypeId),(160:TypeId),pW Wg 0)/\cg (uA Wg h)=some ((123:TO),#[pW Wg 0])/\bL (uA Wg h)=true/\e_ w 22 0 (fin (uA Wg h) (.tuple #[]))=e9 w 22 0 (fin (uA Wg h) (.tuple #[]))/\um (C_ Wg h)=some ((139:TypeId),pW fc 0)/\pM (C_ Wg h)=true/\wA (uB Wg c h)=some (XP (some c))/\pM (uB Wg c h)=true/\bL (uB Wg c h)=true/\mayWake SC (uB Wg c h)=true/\yp w 4 (G9 Wg c h)=yo w 4 (G9 Wg c h):=λw=>by
  have:=H w;unfold zT zR at this;simpa only[UZ]using this
 obtain⟨k1,k2,_,k4,_,k6,k7,k8,_,Cm,K7,zq,K8,Cn,K9,_⟩:=key default;refine⟨k1,Sp (n1:=31) (n2:=3) (λw=>(key w).2.2.1) k4 (λw=>(key w).2.2.2.2.1) k6 ?_⟩;exact Nz (n:=22) hi k7 (λw=>(key w).2.2.2.2.2.2.2.2.1) Cm K7 zq K8 Cn K9 (λw=>(key w).2.2.2.2.2.2.2.2.2.2.2.2.2.2.2)
theorem afH{b:SH}{v:Nat}(hv:0<v)(hi:Im fc 0=some (.chan (some c)))(H:∀w,fT Wg c w b=fR Wg fc c w b ((v:Int)* 4294967296))(hm:∃n,cL SC (ek SC Im c Wg v) n 1 (LA b)):Db SC c Wg Im v 1 b:=by
 have key:∀w,cg b=some ((137:TO),#[pW Wg 0,.int .u64 ((v:Int)* 4294967296),.int .u64 ((v:Int)* 4294967296+1)])/\bL b=true/\e_ w 25 1 (fin b (.bool false))=e9 w 25 1 (fin b (.bool false))/\e_ w 19 1 (fin b (.bool true))=e9 w 19 1 (fin b (.bool true))/\ou (f96 b)=some ((165:TypeId),(160:TypeId),pW Wg 1)/\cg (f97 Wg b)=some ((126:TO),#[pW Wg 1])/\bL (f97 Wg b)=true/\e_ w 23 1 (fin (f97 Wg b) (.tuple #[]))=e9 w 23 1 (fin (f97 Wg b) (.tuple #[]))/\cg (f121 Wg b)=some ((127:TO),#[pW Wg 1,.bool false])/\(f121 Wg b).offers=none/\e_ w 16 1 (fin (f121 Wg b) (.tuple #[]))=e9 w 16 1 (fin (f121 Wg b) (.tuple #[]))/\cg (f138 Wg b)=some ((135:TO),#[pW Wg 0])/\e_ w 11 1 (fin (f138 Wg b) (.int .u64 0))=e9 w 11 1 (fin (f138 Wg b) (.int .u64 0))/\cg (f150 Wg b)=some ((112:TO),(#[]:Array SO))/\e_ w 3 0 (fin (f150 Wg b) (.tuple #[]))=e9 w 3 0 (fin (f150 Wg b) (.tuple #[]))/\ou (f154 Wg b)=some ((158:TypeId),(160:TypeId),pW Wg 0)/\cg (f155 Wg b)=some ((123:TO),#[pW Wg 0])/\bL (f155 Wg b)=true/\e_ w 12 0 (fin (f155 Wg b) (.tuple #[]))=e9 w 12 0 (fin (f155 Wg b) (.tuple #[]))/\um (f168 Wg b)=some ((139:TypeId),pW fc 0)/\pM (f168 Wg b)=true/\wA (f169 Wg c b)=some (XP (some c))/\pM (f169 Wg c b)=true/\bL (f169 Wg c b)=true/\mayWake SC (f169 Wg c b)=true/\yp w 4 (f170 Wg c b)=yo w 4 (f170 Wg c b):=λw=>by
  have:=H w;unfold fT fR at this;simpa only[UZ]using this
 obtain⟨k1,k2,_,_,k5,k6,k7,_,k9,Cm,_,zq,_,Cn,_,K_,La,Sg,_,Lb,Lc,Ld,Lf,Lg,Lh,_⟩:=key default;refine⟨rfl,bL.out k2,⟨_,λw hW=>apS k1 OS hW.st.1 hW.st.2.2.1,?_⟩,λu hu=>⟨_,λw hW=>apU k1 OS hW.st.1 hW.st.2.2.1 (λe=> ?_),?_⟩⟩
 ·refine Ir (λw=>(key w).2.2.2.1) ?_;have hs:SC.underlying 165=some (.pointer (GM.choose))/\(SC.info? GM.choose).map (λi=>decide (i.size=0))=some false:=GM.choose_spec;refine ab1 (bL.out (Oj k5)) (λw x y hW=>GF k5 hs.1 GL hs.2 hW.st.2.1) ⟨0,rfl,bL.out k7,_,λw=>GD .write (λ_ _ h=>by cases h) k6 ago,?_⟩;refine wF (λw=>(key w).2.2.2.2.2.2.2.1) ⟨0,rfl,bL.out (yg k9),Cm,λw st hW=> ?_,fin (f121 Wg b) (.tuple #[]),λw hW=> ?_,?_⟩
  ·exact apZ k9 OQ hW.st.2.1
  ·exact apX (n:=1) k9 OQ hW.st.2.1 (by decide) hW.st.2.2.2
  ·refine wF (λw=>(key w).2.2.2.2.2.2.2.2.2.2.1) ⟨0,rfl,bL.out (yg zq),_,λw hW=>MH zq Ih hW.st.1,?_⟩;refine Sp (n1:=11) (n2:=3) (λw=>(key w).2.2.2.2.2.2.2.2.2.2.2.2.1) Cn (λw=>(key w).2.2.2.2.2.2.2.2.2.2.2.2.2.2.1) K_ ?_;exact Nz (n:=12) hi La (λw=>(key w).2.2.2.2.2.2.2.2.2.2.2.2.2.2.2.2.2.2.1) Lb Lc Ld Lf Lg Lh (λw=>(key w).2.2.2.2.2.2.2.2.2.2.2.2.2.2.2.2.2.2.2.2.2.2.2.2.2)
 ·unfold KK at e;omega
 ·exact wF (λw=>(key w).2.2.1) hm
theorem mi(hi:Im fc 0=some (.chan (some c))){h:SH}{k:Nat}(hz:∀w,zT Wg c w h=zR Wg fc c w h)
  (hv:∀v,0<v->v<=k->v<=4->(∀w,e_ w 48 1 (fin h (.int .u64 ((v:Int)* 4294967296)))=e9 w 48 1 (fin h (.int .u64 ((v:Int)* 4294967296))))/\(∀w,fT Wg c w (f76 h ((v:Int)* 4294967296))=fR Wg fc c w (f76 h ((v:Int)* 4294967296)) ((v:Int)* 4294967296))/\ek SC Im c Wg v 1 (LA (f76 h ((v:Int)* 4294967296)))):ek SC Im c Wg (k+1) 1 h:=by
 obtain⟨z1,z2⟩:=arF hi hz;rw[ek];refine⟨rfl,bL.out (yg z1),λv h1 h2=> ?_⟩;refine⟨_,λw hW=>MH z1 Ih hW.st.1,λe=> ?_,λe=> ?_⟩
 ·subst e;exact z2
 ·obtain⟨q1,q2,q3⟩:=hv v (by omega) h1 h2;exact wF q1 ⟨0,afH (by omega) hi q2 ⟨0,q3⟩⟩
theorem dH{l:List Int}{v:Int}(h:∀w,pT Wg fc c w l v=pR Wg fc c w l v):(∀w,e_ w 48 1 (fin (hd Wg fc l) (.int .u64 v))=e9 w 48 1 (fin (hd Wg fc l) (.int .u64 v)))/\(∀w,fT Wg c w (bd Wg fc l v)=fR Wg fc c w (bd Wg fc l v) v)/\(∀w,zT Wg c w (hd Wg fc (v::l))=zR Wg fc c w (hd Wg fc (v::l))):=by
 refine⟨λw=>(W1 (h w)).1,λw=>(W1 (W1 (h w)).2).1,λw=>(W1 (W1 (h w)).2).2⟩
end
section
variable (Wg fc c:Nat){Im:cm}
theorem akp(hi:Im fc 0=some (.chan (some c))):ek SC Im c Wg 1 1 (hd Wg fc [1* 4294967296]):=by
 refine mi (k:=0) hi (dH (L6 Wg fc c)).2.2 λv h1 h2 h3=> ?_;omega
theorem akq(hi:Im fc 0=some (.chan (some c))):ek SC Im c Wg 1 1 (hd Wg fc [1* 4294967296,2* 4294967296]):=by
 refine mi (k:=0) hi (dH (L7 Wg fc c)).2.2 λv h1 h2 h3=> ?_;omega
theorem akx(hi:Im fc 0=some (.chan (some c))):ek SC Im c Wg 2 1 (hd Wg fc [2* 4294967296]):=by
 refine mi (k:=1) hi (dH (Md Wg fc c)).2.2 λv h1 h2 h3=> ?_;rcases(show v=1 by omega)with rfl
 ·exact⟨(dH (L7 Wg fc c)).1,(dH (L7 Wg fc c)).2.1,akq Wg fc c hi⟩
theorem aku(hi:Im fc 0=some (.chan (some c))):ek SC Im c Wg 1 1 (hd Wg fc [1* 4294967296,3* 4294967296]):=by
 refine mi (k:=0) hi (dH (Ma Wg fc c)).2.2 λv h1 h2 h3=> ?_;omega
theorem akr(hi:Im fc 0=some (.chan (some c))):ek SC Im c Wg 1 1 (hd Wg fc [1* 4294967296,2* 4294967296,3* 4294967296]):=by
 refine mi (k:=0) hi (dH (L8 Wg fc c)).2.2 λv h1 h2 h3=> ?_;omega
theorem aky(hi:Im fc 0=some (.chan (some c))):ek SC Im c Wg 2 1 (hd Wg fc [2* 4294967296,3* 4294967296]):=by
 refine mi (k:=1) hi (dH (Me Wg fc c)).2.2 λv h1 h2 h3=> ?_;rcases(show v=1 by omega)with rfl
 ·exact⟨(dH (L8 Wg fc c)).1,(dH (L8 Wg fc c)).2.1,akr Wg fc c hi⟩
theorem akB(hi:Im fc 0=some (.chan (some c))):ek SC Im c Wg 3 1 (hd Wg fc [3* 4294967296]):=by
 refine mi (k:=2) hi (dH (Mh Wg fc c)).2.2 λv h1 h2 h3=> ?_;rcases(show v=1\/v=2 by omega)with rfl|rfl
 ·exact⟨(dH (Ma Wg fc c)).1,(dH (Ma Wg fc c)).2.1,aku Wg fc c hi⟩
 ·exact⟨(dH (Me Wg fc c)).1,(dH (Me Wg fc c)).2.1,aky Wg fc c hi⟩
theorem akw(hi:Im fc 0=some (.chan (some c))):ek SC Im c Wg 1 1 (hd Wg fc [1* 4294967296,4* 4294967296]):=by
 refine mi (k:=0) hi (dH (Mc Wg fc c)).2.2 λv h1 h2 h3=> ?_;omega
theorem akt(hi:Im fc 0=some (.chan (some c))):ek SC Im c Wg 1 1 (hd Wg fc [1* 4294967296,2* 4294967296,4* 4294967296]):=by
 refine mi (k:=0) hi (dH (L_ Wg fc c)).2.2 λv h1 h2 h3=> ?_;omega
theorem akA(hi:Im fc 0=some (.chan (some c))):ek SC Im c Wg 2 1 (hd Wg fc [2* 4294967296,4* 4294967296]):=by
 refine mi (k:=1) hi (dH (Mg Wg fc c)).2.2 λv h1 h2 h3=> ?_;rcases(show v=1 by omega)with rfl
 ·exact⟨(dH (L_ Wg fc c)).1,(dH (L_ Wg fc c)).2.1,akt Wg fc c hi⟩
theorem akv(hi:Im fc 0=some (.chan (some c))):ek SC Im c Wg 1 1 (hd Wg fc [1* 4294967296,3* 4294967296,4* 4294967296]):=by
 refine mi (k:=0) hi (dH (Mb Wg fc c)).2.2 λv h1 h2 h3=> ?_;omega
theorem aks(hi:Im fc 0=some (.chan (some c))):ek SC Im c Wg 1 1 (hd Wg fc [1* 4294967296,2* 4294967296,3* 4294967296,4* 4294967296]):=by
 refine mi (k:=0) hi (dH (L9 Wg fc c)).2.2 λv h1 h2 h3=> ?_;omega
theorem akz(hi:Im fc 0=some (.chan (some c))):ek SC Im c Wg 2 1 (hd Wg fc [2* 4294967296,3* 4294967296,4* 4294967296]):=by
 refine mi (k:=1) hi (dH (Mf Wg fc c)).2.2 λv h1 h2 h3=> ?_;rcases(show v=1 by omega)with rfl
 ·exact⟨(dH (L9 Wg fc c)).1,(dH (L9 Wg fc c)).2.1,aks Wg fc c hi⟩
theorem akC(hi:Im fc 0=some (.chan (some c))):ek SC Im c Wg 3 1 (hd Wg fc [3* 4294967296,4* 4294967296]):=by
 refine mi (k:=2) hi (dH (Mi Wg fc c)).2.2 λv h1 h2 h3=> ?_;rcases(show v=1\/v=2 by omega)with rfl|rfl
 ·exact⟨(dH (Mb Wg fc c)).1,(dH (Mb Wg fc c)).2.1,akv Wg fc c hi⟩
 ·exact⟨(dH (Mf Wg fc c)).1,(dH (Mf Wg fc c)).2.1,akz Wg fc c hi⟩
theorem akD(hi:Im fc 0=some (.chan (some c))):ek SC Im c Wg 4 1 (hd Wg fc [4* 4294967296]):=by
 refine mi (k:=3) hi (dH (Mj Wg fc c)).2.2 λv h1 h2 h3=> ?_;rcases(show v=1\/v=2\/v=3 by omega)with rfl|rfl|rfl
 ·exact⟨(dH (Mc Wg fc c)).1,(dH (Mc Wg fc c)).2.1,akw Wg fc c hi⟩
 ·exact⟨(dH (Mg Wg fc c)).1,(dH (Mg Wg fc c)).2.1,akA Wg fc c hi⟩
 ·exact⟨(dH (Mi Wg fc c)).1,(dH (Mi Wg fc c)).2.1,akC Wg fc c hi⟩
theorem hq_(hi:Im fc 0=some (.chan (some c))):ek SC Im c Wg 5 1 (hd Wg fc []):=by
 refine mi (k:=4) hi (zz Wg fc c) λv h1 h2 h3=> ?_;rcases(show v=1\/v=2\/v=3\/v=4 by omega)with rfl|rfl|rfl|rfl
 ·exact⟨(dH (L6 Wg fc c)).1,(dH (L6 Wg fc c)).2.1,akp Wg fc c hi⟩
 ·exact⟨(dH (Md Wg fc c)).1,(dH (Md Wg fc c)).2.1,akx Wg fc c hi⟩
 ·exact⟨(dH (Mh Wg fc c)).1,(dH (Mh Wg fc c)).2.1,akB Wg fc c hi⟩
 ·exact⟨(dH (Mj Wg fc c)).1,(dH (Mj Wg fc c)).2.1,akD Wg fc c hi⟩
theorem afN(hi:Im fc 0=some (.chan (some c))):Hd SC Im c Wg (born SC ⟨.fn (.func 100) #[pW Wg 0,pW fc 0],#[]⟩):=by
 have h0:∀w,e_ w 7 0 (e0 Wg fc)=e9 w 7 0 (e0 Wg fc)/\cg (e7 Wg fc)=some ((111:TO),(#[]:Array SO))/\e_ w 19 1 (e8 Wg fc)=e9 w 19 1 (e8 Wg fc):=λw=>by
  have:=c0 Wg fc w;simpa only[UZ]using this
 show ∃n,cL SC (ek SC Im c Wg 5) n 0 (e0 Wg fc);refine wF (λw=>(h0 w).1) ?_;refine MD (bL.out (yg (h0 default).2.1)) (LI (.inl rfl)) (λw=>GC (λ_ h=>by cases h) (h0 default).2.1 Ig) ?_;exact wF (d:=deafBehind 0 #[⟨.mark .disable,false,true⟩]) (λw=>(h0 w).2.2) ⟨0,hq_ Wg fc c hi⟩
end
open Go.Gg.Tk
section
variable {lv:Bool}{P:SJ}{r:Option Nat}{nt:Nat}{E:Env}{V:View}{a:Act}{s:AS}{c:T9}{Q:Ex->Act->View->Prop}
theorem yd(s3:AS)(ah:At E V s a nt)(h:aU lv P r nt c s (λe s'=>match e with|.normal=>s'.Sub s3|_=>False))(hQ:∀E' V' a',Kept E E' V V' a a'->At E' V' s3 a' nt->Q .normal a' V'):WP lv P r c Q a V:=
 h E V a Q ah λae e E' V' a' s' hk aQ he hΦ=>by
  cases ae<;>cases e<;>first
   |exact he.elim
   |exact hΦ.elim
   |exact hQ E' V' a' hk (aQ.sub hΦ)
theorem unwind_mark{lv:Bool}{P:SJ}{main:Bool}{J:View->SH->Prop}(C:Closed lv P main J){V:View}{fr:Ua}{cs:List Ua}{b:Nat}{ds:List UV}(h4:fr.defers={target:=.collected b,args:=#[]}::ds) (hm:(fr.mode matches .run)=false) (ho:V.own b=some (.deferred (some []))) (eJ:V.role.chan≠some b) (h:J (V.upd b (.deferred none)) (G {fr with defers:=ds} cs)):J V (G fr cs):=by
 refine C.step _ _ rfl λw hw=> ?_;obtain⟨es,w',V',k1,k2,k3⟩:=(MA (P:=P) ho eJ).runs hw;rcases k3 with⟨x,k3,rfl,rfl⟩|⟨_,_,hx⟩
 ·refine⟨G {fr with defers:=ds} cs,w',seen P fr.fn es,_,?_,k1.seen P fr.fn,h⟩;have e:stepG P main (G fr cs) w=unwind P main fr cs none w:=by
   obtain⟨fn,tmps,todo,defers,mode,kind,ro⟩:=fr;cases mode with
   |run=>cases hm
   |returning=>simp[G,stepG]
   |panicking ch=>simp[G,stepG]
  rw[e];simp only[unwind,h4];simp[TC,k3,k2,T1,G]
 ·exact hx.elim
theorem fx{s s':AS}(h:∀p∈s'.T,∃b,look s.T p.1=some b/\Wk b p.2)(hH:s.H=s'.H):s.Sub s':=⟨λ_ _ e=>h _ (qX e),hH⟩
theorem tr{E:Env}{x v:SO}(h:ap E (.val x) v):v=x:=by cases h;rfl
theorem DY{E:Env}{cs:Array SO}(h:cE E [] cs):cs=#[]:=Array.size_eq_zero_iff.1 h.1
theorem OE{E:Env}{l:List SO}{cs:Array SO}(h:cE E (l.map .val) cs):cs=l.toArray:=by
 have hs:cs.size=l.length:=by simpa using h.1
 refine Array.ext hs λi h1 h2=> ?_;have hi:i<l.length:=by simpa using h2
 have:=tr (h.2 i (.val l[i]) (by simp[SP hi]));rw[SI,SK h1]at this;simpa using this
def qV (K:Kn)(b:Nat):List SO:=.bool K.has:: .map (some b)::(K.aA.map (λn:Nat=>SG .u16 n)++(K.hours.map (λn:Nat=>SG .u16 n)++(K.less.map (λn:Nat=>SG .u16 n)++(K.aS.map (λn:Nat=>SG .u16 n)++K.first.map (SG .i64)))))
def qU (K:Kn):Obj:=.map (K.aK.zipIdx.map ee).toArray K.aK.length
theorem af2{E:Env}{K:Kn}{mp:Nat}{v:SO}(h:ap E (.agg (K.l mp)) v):v=.agg (qV K (E.blk mp)).toArray:=by
 cases h with
 |agg hs h=>
  rename_i cs;congr 1;have hl:(K.l mp).length=(qV K (E.blk mp)).length:=by simp[Kn.l,qV]
  have key:∀(i:Nat)(x:AV),(K.l mp)[i]?=some x->∀y,ap E x y->(qV K (E.blk mp))[i]?=some y:=by
   intro i x hx y hy
   match i with
   |0=>cases hx;rw[tr hy];rfl
   |1=>cases hx;cases hy;rfl
   |i+2=>
    have e:(K.l mp)[i+2]?=((K.aA.map (λn:Nat=>SG .u16 n)++(K.hours.map (λn:Nat=>SG .u16 n)++(K.less.map (λn:Nat=>SG .u16 n)++(K.aS.map (λn:Nat=>SG .u16 n)++K.first.map (SG .i64))))).map AV.val)[i]?:=by
     simp[Kn.l,wv,iv,YA]
    rw[e,To]at hx;obtain⟨z,h1,rfl⟩:=Tq.1 hx;rw[tr hy];exact h1
  have oJ:cs.size=(qV K (E.blk mp)).length:=hs.trans hl;refine Array.ext oJ λi h1 h2=> ?_;have hi:i<(K.l mp).length:=by omega
  have:=key i _ (SP hi) _ (h i _ (SP hi));rw[SI,SK h1]at this;have h3:(qV K (E.blk mp)).toArray[i]?=some cs[i]:=by simpa using this
  rw[SK h2]at h3;exact(VC h3).symm
def pS (x:ak)(deep:Int)(bc:Nat):Spec:=λv _ Ow=>∃b,v=.agg (qV (gq x deep bc) b).toArray/\∀b',Ow b'=if b'=b then some (qU (gq x deep bc))else none
set_option maxRecDepth 100000 in
theorem anP:SC.funcs.size=184:=by kernel_rfl
theorem M4{x:ak}{deep:Int}{bc:Nat}(hx:x.Ok)(hA:∀h∈j3 x bc,l7 h/\∀ns∈fJ x h,∀a∈(gS x h ns).map (dp h ns),jc x a):bH (gq x deep bc):=by
 unfold gq;refine IS hx (λt ht=> ?_) Co;obtain⟨h,h1,h2⟩:=S7.1 ht;obtain⟨ns,h3,h4⟩:=MU h2;exact(hA h h1).2 ns h3 t h4
theorem aru{J:View->SH->Prop}(C:xR SC false J){E:Env}{V:View}{x:ak}{bc c Wg:Nat}{deep:Int}{rv tv dv fv:SO}(hx:x.Ok)(lh:bc<=3)(hA:∀h∈j3 x bc,l7 h/\∀ns∈fJ x h,∀a∈(gS x h ns).map (dp h ns),jc x a)(ajo:Conc E V [])
  (hr:ap E (.rp x.l) rv) (ht:ap E (.rp [iv bc]) tv) (hd:ap E (.rp [iv deep]) dv) (hf:ap E (.rp [.val (.chan (some c))]) fv) (bX:V.role=.work c Wg [pS x deep bc]) (eK:V.deaf=0):J V (born SC ⟨.fn (.func 97) #[pW Wg 0,rv,tv,dv,fv],#[]⟩):=by
 have C':Closed false SC false J:={C with more:=λh=>by cases h};unfold born;rw[anP];refine acQ C' (fr:={(default:Ua)with fn:=184,defers:=[⟨.fn (.func 97) #[pW Wg 0,rv,tv,dv,fv],#[]⟩],mode:=.panicking [goexitEntry]}) (ds:=[]) rfl rfl (by kernel_rfl) ?_;refine agy (Q:=λa' V'=>∃b,a'.defers=[{target:=.collected b,args:=#[]},⟨.fn (.func 98) #[],#[pW Wg 0]⟩]/\V'.own b=some (.deferred (some []))/\V'.role=.work c Wg []/\V'.deaf=0) C' (by simp) F.f97 rfl ?_ ?_
 rotate_left
 ·rintro a' V' todo ⟨b,h1,h0,h2,h3⟩
  refine unwind_mark C' (ds:=[⟨.fn (.func 98) #[],#[pW Wg 0]⟩]) h1 rfl h0 (by rw[h2];simp[mD.chan]) ?_;refine acQ C' (ds:=[]) rfl rfl (by kernel_rfl) ?_;exact agd Wg a'.tmps todo C h2 h3
 have cI:cE E [.val (pW Wg 0),.rp x.l,.rp [iv bc],.rp [iv deep],.rp [.val (.chan (some c))]] (#[]++#[pW Wg 0,rv,tv,dv,fv]):=by
  refine⟨rfl,λi a e=> ?_⟩
  match i,e with
  |0,e=>cases e;exact .val _
  |1,e=>cases e;exact hr
  |2,e=>cases e;exact ht
  |3,e=>cases e;exact hd
  |4,e=>cases e;exact hf
 have ah:=AP (nt:=25) ajo cI (by simp);simp only[bk,SW]at ah;refine wp_seq ?_;refine(NV (nt:=25) (n:=0) (ds:=[]) (Φ:=λe s' mN=>e=.normal/\s'=⟨[(0,.val (pW Wg 0)),(1,.rp x.l),(2,.rp [iv bc]),(3,.rp [iv deep]),(4,.rp [.val (.chan (some c))])],[]⟩/\mN=[(.fn (.func 98) [] [],[.val (pW Wg 0)])]) rfl rfl rfl rfl rfl rfl (by kernel_rfl) ?_) E V _ _ ah trivial λae e E1 V1 a1 s1 ds1 g_ vd di BF h1=> ?_
 ·(try simp only[seval]);exact⟨_,_,_,rfl⟩
 obtain⟨rfl,rfl,rfl⟩:=h1;cases e<;>first
  |exact BF.elim
  |skip
 have ajx:a1.defers=[⟨.fn (.func 98) #[],#[pW Wg 0]⟩]:=by
  match iM:a1.defers,di with
  |[d],di=>
   obtain⟨⟨f,first,cM,fa,ca,vs,q1,rfl,q3,q4,q5⟩,_⟩:=di;cases q1;rw[DY q3,DY q4,OE (l:=[pW Wg 0]) q5];rfl
  |[],di=>exact di.elim
  |_::_::_,di=>exact di.2.elim
 refine wp_seq ?_;refine yd ⟨[(5,.op 1 0),(0,.val (pW Wg 0)),(1,.rp x.l),(2,.rp [iv bc]),(3,.rp [iv deep]),(4,.rp [.val (.chan (some c))])],[setH [],.cells (Kn.zero.l 0) 88]⟩ vd ?_ λE2 V2 a2 cz tI=> ?_
 ·refine ai ?_;exact fx (by simp only[seval];simp[bN,Wk.refl]) rfl
 refine wp_seq (wp_seq ?_);refine yd ⟨uh x bc deep c (pW Wg 0),vI x bc Kn.zero⟩ tI ?_ λE3 V3 a3 vA pk=> ?_
 ·have bP:x.l=[iv x.first,iv x.hours,iv x.an,dS x.seen,aZ x.pieces,aZ x.aB]:=rfl;refine aj ?_;simp only[seval,bP];refine aM ((IA (x:=x) (n:=bc) ?_));(try simp only[seval]);exact fx (by unfold uh;simp only[seval];simp[bN,Wk.refl];exact Wk.refl _) rfl
 have ajy:a3.defers=[⟨.fn (.func 98) #[],#[pW Wg 0]⟩]:=vA.defers.trans (cz.defers.trans ajx);have akE:V3.role=.work c Wg [pS x deep bc]:=vA.role.trans (cz.role.trans (g_.role.trans bX));have ajs:V3.deaf=0:=vA.deaf.trans (cz.deaf.trans (g_.deaf.trans eK));refine alf (lv:=false) (bs:=[⟨.fn (.func 98) #[],#[pW Wg 0]⟩]) hx lh hA (λe s' cw=>e=.normal/\s'=⟨uh x bc deep c (pW Wg 0),vI x bc (gq x deep bc)++[.obj (.deferred (some [])),.gone]⟩/\cw=[4]) ⟨rfl,rfl,rfl⟩ E3 V3 a3 _ pk ⟨by simp[ajy],by simp⟩ λae e E4 V4 a4 s4 ms4 qD qy aj3 he4 hΦ4=> ?_;obtain⟨rfl,rfl,rfl⟩:=hΦ4;cases e<;>first
  |exact he4.elim
  |skip
 have ajz:a4.defers=[{target:=.collected (E4.blk 4),args:=#[]},⟨.fn (.func 98) #[],#[pW Wg 0]⟩]:=aj3.1;have akF:V4.role=.work c Wg [pS x deep bc]:=qD.role.trans akE;have Qt:V4.deaf=0:=qD.deaf.trans ajs;have wP:bH (gq x deep bc):=M4 hx hA;generalize hW:gq x deep bc=W at qy wP;have Eo:=Kn.len wP 0;refine GW (K:=λs'=>look s'.T 23=some (.val (.chan (some c)))/\look s'.T 24=some (.agg (W.l 0))/\s'.Sub ⟨uh x bc deep c (pW Wg 0),vI x bc W++[.obj (.deferred (some [])),.gone]⟩) 2 1 rfl (by kernel_rfl) qy ?_ λE5 V5 a5 s5 fV jM hK=> ?_
 ·unfold uh vI;(try simp only[seval,Eo]);rw[SX (i:=28) (by omega)];exact⟨rfl,fx (by simp only[seval];simp[bN,Wk.refl]) rfl⟩
 obtain⟨l23,l24,lg⟩:=hK;have Et:=jM.sub lg;have e23:a5.eval (.tmp 23)=.chan (some c):=tr (jM.tok _ _ l23).2;have e24:a5.eval (.tmp 24)=.agg (qV W (E5.blk 0)).toArray:=af2 (jM.tok _ _ l24).2;have h0:V5.own (E5.blk 0)=some (qU W):=(Et.br.obj 0 (setH W.aK) rfl).1;have h4:V5.own (E5.blk 4)=some (.deferred (some [])):=(Et.br.obj 4 (.obj (.deferred (some []))) rfl).1;have aC:E5.blk 4≠E5.blk 0:=λe=>by rw[e,h0]at h4;cases h4
 have hb4:E5.blk 4=E4.blk 4:=fV.le.blk 4 (by rw[qy.br.n];simp[vI]);refine M8 rfl rfl ?_;refine⟨c,Wg,pS x deep bc,[],λb=>decide (b=E5.blk 0),e23,by rw[fV.role];exact akF,fV.deaf.trans Qt,⟨E5.blk 0,by rw[hW];exact e24,λb'=> ?_⟩,?_⟩
 ·rw[hW];by_cases hb:b'=E5.blk 0
  ·subst hb;simp[h0]
  ·simp[hb]
 ·refine⟨trivial,E5.blk 4,?_,?_,rfl,fV.deaf.trans Qt⟩
  ·rw[hb4];exact fV.defers.trans ajz
  ·show (if decide (E5.blk 4=E5.blk 0)=true then none else V5.own (E5.blk 4))=_;rw[if_neg (by simpa using aC)];exact h4
theorem ant(r:Option Nat):AV.parts (.val (.chan r))=some [.val (.chan r)]:=rfl
theorem arI(r:Option Nat):lA (.chan r)=[.val (.chan r)]:=rfl
theorem alD(r:Option Nat):AV.leaf (.val (.chan r))=true:=rfl
theorem M5{x y:T9}{t:Nat}{b:Bool}(ah:At E V s a nt)(hl:look s.T t=some (.val (.bool b)))(h:WP lv P r (if b then x else y) Q a V):WP lv P r (.cond (.tmp t) x y) Q a V:=by
 have hd:=(ah.tok t _ hl).2;generalize hx:a.tmps.getD t undef=v at hd;cases hd;exact wp_cond (t:=b) hx h
end
theorem Oz{E:Env}{f:Fn}{first cM:List AV}{v:SO}(h:ap E (.fn f first cM) v):∃fa ca,v=.func f fa ca/\cE E first fa/\cE E cM ca:=by
 cases h with
 |fn dF fI h1 h2=>exact⟨_,_,rfl,⟨dF,h1⟩,⟨fI,h2⟩⟩
theorem A2{E:Env}{i o:Nat}{v:SO}(h:ap E (.op i o) v):v=.pointer (some ⟨E.blk i,o,none⟩):=by cases h;rfl
theorem FV(x:ak)(n:Nat):∀a∈x.l,Lt n a:=by
 intro a ha;simp only[ak.l,SL,S0,or_false]at ha;rcases ha with rfl|rfl|rfl|rfl|rfl|rfl
 ·exact .val _
 ·exact .val _
 ·exact .val _
 ·rw[aan];trivial
 ·rw[FT];trivial
 ·rw[FT];trivial
theorem amk(x:ak):Lt 0 (.rp x.l):=by
 rw[xx];exact FV x 0
set_option maxRecDepth 100000 in
theorem wgT:MY SC=147:=by kernel_rfl
def ci:T9->T9
 |.block _ c|.loop c|.scope c=>c
 |_=> .skip
noncomputable def uj:T9:=XN.body.getD .skip
noncomputable def lT:T9:=cs (cs (cs uj))
def rQ:Obj:=.chan 0 #[] false 0 0 false
def iZ:List AV:=bv false:: .val (.map none)::(TM 15 (wv 0)++TM 11 (iv 0))
def de (x:ak)(deep:Int)(c:Nat):List aa:=[.part 6 x.l 76,.part 1 [iv deep] 3,.cells iZ 88,.part 1 [.val (.chan (some c))] 139,.gone]
structure jb (x:ak)(deep:Int)(Hs:List aa)(E:Env)(c Wg:Nat)(rv dv fv:SO)(T:List (Nat×AV))(M:List aa)(E':Env)(V':View)(a':Act):Prop where
 ah:At E' V' ⟨T,Hs++(de x deep c++M)⟩ a' 35
 lo:E.Lo E'
 main:E'.main=false
 defers:a'.defers=[]
 deaf:V'.deaf=0
 er:rv=.pointer (some ⟨E'.blk Hs.length,0,none⟩)
 ed:dv=.pointer (some ⟨E'.blk (Hs.length+1),0,none⟩)
 ef:fv=.pointer (some ⟨E'.blk (Hs.length+3),0,none⟩)
 dr:ap E' (.rp x.l) rv
 dd:ap E' (.rp [iv deep]) dv
 df:ap E' (.rp [.val (.chan (some c))]) fv
 fr:∀b y,E.fr b=some y->E'.fr b=some y/\b≠c/\b≠Wg
 ne:c≠Wg
section
variable {x:ak}{deep:Int}{Hs:List aa}{E:Env}{c Wg:Nat}{rv dv fv:SO}{T T':List (Nat×AV)}{M M' G:List aa}{E1 E2:Env}{V1 V2:View}{a1 a2:Act}
theorem jb.GG(h:jb x deep Hs E c Wg rv dv fv T M E1 V1 a1)(le:E1.Le E2)(bw:a2.defers=a1.defers)(eK:V2.deaf=V1.deaf)(ah:At E2 V2 ⟨T',Hs++(de x deep c++M')⟩ a2 35):jb x deep Hs E c Wg rv dv fv T' M' E2 V2 a2:=by
 have hl:∀i,i<5->Hs.length+i<E1.n:=λi hi=>by rw[h.ah.br.n];simp[de];omega
 exact⟨ah,h.lo.trans le.lo,le.main.trans h.main,bw.trans h.defers,eK.trans h.deaf,by have:=le.blk _ (hl 0 (by omega));rw[UJ]at this;rw[this];exact h.er,by rw[le.blk _ (hl 1 (by omega))];exact h.ed,by rw[le.blk _ (hl 3 (by omega))];exact h.ef,h.dr.mono le,h.dd.mono le,h.df.mono le,λb y e=>by rw[le.fr];exact h.fr b y e,h.ne⟩
theorem jb.step(h:jb x deep Hs E c Wg rv dv fv T M E1 V1 a1)(hk:Kept E1 E2 V1 V2 a1 a2)(ah:At E2 V2 ⟨T',Hs++(de x deep c++M')⟩ a2 35):jb x deep Hs E c Wg rv dv fv T' M' E2 V2 a2:=h.GG hk.le hk.defers hk.deaf ah
theorem jb.to(T':List (Nat×AV))(M':List aa)(h:jb x deep Hs E c Wg rv dv fv T M E1 V1 a1){cd:T9}{Q:Ex->Act->View->Prop}(hw:aU true SC none 35 cd ⟨T,Hs++(de x deep c++M)⟩ (λe s'=>match e with|.normal=>s'.Sub ⟨T',Hs++(de x deep c++M')⟩|_=>False))
  (hQ:∀E2 V2 a2,Kept E1 E2 V1 V2 a1 a2->jb x deep Hs E c Wg rv dv fv T' M' E2 V2 a2->Q .normal a2 V2):WP true SC none cd Q a1 V1:=
 yd ⟨T',Hs++(de x deep c++M')⟩ h.ah hw λE2 V2 a2 hk ah=>hQ E2 V2 a2 hk (h.step hk ah)
theorem jb.cut(h:jb x deep Hs E c Wg rv dv fv T (M++G) E1 V1 a1)(hE:E.n<=Hs.length)(hT:∀p∈T',∃b,look T p.1=some b/\Wk b p.2/\Lt (Hs.length+5+M.length) p.2)(ay:bM (Hs++(de x deep c++M))):jb x deep Hs E c Wg rv dv fv T' M {E1 with n:=Hs.length+5+M.length} V1 a1:=by
 have hlen:(Hs++(de x deep c++M)).length=Hs.length+5+M.length:=by simp[de];omega
 have hc:=h.ah.cut (s':=⟨T',Hs++(de x deep c++M)⟩) ⟨λt a e=>by
  obtain⟨b,h1,h2,h3⟩:=hT _ (qX e);exact⟨b,h1,h2,by rw[hlen];exact h3⟩,⟨G,by simp⟩,ay⟩
 simp only[hlen]at hc;exact⟨hc,h.lo.cut (by omega),h.main,h.defers,h.deaf,h.er,h.ed,h.ef,h.dr.trim (by rw[xx];exact FV x _),h.dd.trim (by simp[xx,eE]),h.df.trim (by simp[xx,eE]),h.fr,h.ne⟩
theorem Sm(hH:bM Hs)(hM:∀z∈M,eR (Hs.length+5+M.length) z):bM (Hs++(de x deep c++M)):=by
 intro y hy;have hlen:(Hs++(de x deep c++M)).length=Hs.length+5+M.length:=by simp[de];omega
 rw[hlen];rcases SS.1 hy with h|h
 ·exact(hH y h).mono (by omega)
 ·rcases SS.1 h with h|h
  ·simp only[de,SL,S0,or_false]at h;rcases h with rfl|rfl|rfl|rfl|rfl
   ·exactλa ha=>FV x _ a ha
   ·intro a ha;simp at ha;subst ha;exact .val _
   ·intro a ha;simp only[iZ,SL,SS,Xy]at ha;rcases ha with rfl|rfl|⟨_,rfl⟩|⟨_,rfl⟩<;>exact .val _
   ·intro a ha;simp at ha;subst ha;exact .val _
   ·trivial
  ·exact hM y h
end
def n4 (x:ak)(deep:Int)(i:Nat):List (List Spec):=(SV i).map λk=>[pS x deep k]
theorem MF(x:ak)(deep:Int)(i:Nat):(n4 x deep i).length=i:=by simp[n4]
theorem apJ(x:ak)(deep:Int)(i:Nat):n4 x deep (i+1)=n4 x deep i++[[pS x deep i]]:=by simp[n4,Vk]
def wm (x:ak):Prop:=∀bc,bc<=3->∀h∈j3 x bc,l7 h/\∀ns∈fJ x h,∀a∈(gS x h ns).map (dp h ns),jc x a
noncomputable def jg (Hs:List aa)(Wg:Nat)(n:Int)(i:Nat):List (Nat×AV):=[(16,iv i),(15,iv n),(6,.val (pW Wg 0)),(5,.op (Hs.length+3) 0),(4,.op (Hs.length+2) 0),(3,.op (Hs.length+1) 0),(2,.op Hs.length 0)]
structure uF (x:ak)(deep:Int)(Hs:List aa)(E:Env)(c Wg:Nat)(rv dv fv:SO)(i:Nat)(T:List (Nat×AV))(M:List aa)(E':Env)(V':View)(a':Act):Prop where
 ok:jb x deep Hs E c Wg rv dv fv T M E' V' a'
 role:V'.role=.fork c Wg (n4 x deep i)
 D_:E'.fr c=some rQ
 A_:E'.fr Wg=some (wgBlock SC ((i:Int)* 4294967296) 0)
section
variable {x:ak}{deep n:Int}{Hs:List aa}{E:Env}{c Wg i:Nat}{rv dv fv:SO}{T T':List (Nat×AV)}{M M':List aa}{E1 E2:Env}{V1 V2:View}{a1 a2:Act}
theorem uF.step(h:uF x deep Hs E c Wg rv dv fv i T M E1 V1 a1)(hk:Kept E1 E2 V1 V2 a1 a2)(hc:jb x deep Hs E c Wg rv dv fv T' M' E2 V2 a2):uF x deep Hs E c Wg rv dv fv i T' M' E2 V2 a2:=
 ⟨hc,hk.role.trans h.role,by rw[hk.le.fr];exact h.D_,by rw[hk.le.fr];exact h.A_⟩
theorem als(hx:x.Ok)(hA:wm x)(yE:E.n<=Hs.length)(ay:bM (Hs++(de x deep c++[])))(h:uF x deep Hs E c Wg rv dv fv i (jg Hs Wg n i) [] E1 V1 a1)(hi:i<=3){cd:T9}{Q:Ex->Act->View->Prop}(hcd:cd=cs (cs (ci (ci (cs (cf lT))))))
  (hQ:∀E2 V2 a2,uF x deep Hs E c Wg rv dv fv (i+1) (jg Hs Wg n (i+1)) [] E2 V2 a2->Q .normal a2 V2):WP true SC none cd Q a1 V1:=by
 subst hcd;refine wp_seq (wp_block (wp_seq ?_));refine h.ok.to ((7,.op (Hs.length+5) 0)::jg Hs Wg n i) [.cells [iv i] 3] ?_ λE2 V2 a2 cz cN=> ?_
 ·unfold jg de;refine ai ?_;exact fx (by simp only[seval];simp[bN,Wk.refl]) rfl
 have h2:=h.step cz cN;obtain⟨V3,g3,o3,r3,d3,FM,HV,Ou⟩:=cN.ah.br.Gm (id:=Hs.length+5) (by rw[a_];rfl) 1 (by simp);rw[dX]at HV;have JX:Kept E2 {E2 with I:=V3.ab} V2 V3 a2 a2:=⟨FM,rfl,rfl,r3,d3⟩;have dI:=cN.step (T':=(7,.op (Hs.length+5) 0)::jg Hs Wg n i) (M':=[.part 1 [iv i] 3]) JX ⟨HV,cN.ah.tok.mono FM,cN.ah.size⟩;have h3:=h2.step JX dI;refine WP.ghost g3 ?_;generalize{E2 with I:=V3.ab}=E3 at FM HV Ou JX dI h3;have e6:a2.eval (.tmp 6)=pW Wg 0:=tr (dI.ah.tok 6 (.val (pW Wg 0)) rfl).2;obtain⟨w1,w2,w3⟩:=dI.ah.br.fr Wg _ h3.A_;have hrc:V3.role.chan≠some Wg:=by rw[h3.role];intro e;cases e;exact dI.ne rfl
 refine wp_seq (acZ rfl rfl (anc rfl rfl (by kernel_rfl) ?_));have cI:(#[as_ 6,atk (.int .i64 1)]:Array Tg).map a2.eval=#[pW Wg 0,.int .i64 1]:=by
  simp only[List.map_toArray,UU,List.map_nil,e6];rfl
 rw[cI];refine(ad7 (n:=i) (sm:=MY SC) (by omega) w1 w2 hrc dI.deaf).mono λo V4 hV=> ?_;obtain⟨rfl,rfl⟩:=hV;dsimp only;refine ary ?_;let v8:Obj:=wgBlock SC (((i+1:Nat):Int)* 4294967296) 0;show WP true SC none _ _ (a2.put (some 19) (.tuple #[])) (V3.upd Wg v8);have rR:=dI.ah.br.aiw h3.A_ v8;let f4:Nat->Option Obj:=λb'=>if b'=Wg then some v8 else E3.fr b';have lI:jb x deep Hs E c Wg rv dv fv ((7,.op (Hs.length+5) 0)::jg Hs Wg n i) [.part 1 [iv i] 3] (E3.frame f4) (V3.upd Wg v8) (a2.put (some 19) (.tuple #[])):=by
  refine⟨⟨rR,λt av e=> ?_,(dR a2 (some 19) _).trans dI.ah.size⟩,dI.lo.trans (Env.FR E3 f4),dI.main,(put_defers a2 _ _).trans dI.defers,dI.deaf,dI.er,dI.ed,dI.ef,dI.dr.frame f4,dI.dd.frame f4,dI.df.frame f4,λb y e=> ?_,dI.ne⟩
  ·have aC:t≠19:=by
    intro et;subst et;simp[jg,look]at e
   have:=((dI.ah.tok.frame f4).put (d:=19) (a:=.aJ []) (v:=.tuple #[]) (by rw[dI.ah.size];omega) (.aJ rfl (by simp))) t av (by simp only[look];rw[if_neg (Ne.symm aC)];exact e);exact this
  ·obtain⟨q1,q2,q3⟩:=dI.fr b y e;exact⟨by show (if b=Wg then _ else _)=_;rw[if_neg q3];exact q1,q2,q3⟩
 have OI:ap (E3.frame f4) (.rp [iv i]) (.pointer (some ⟨(E3.frame f4).blk (Hs.length+5),0,none⟩)):=by
  have hl:Hs.length+5<E2.n:=by rw[cN.ah.br.n];simp[de]
  have e:(E3.frame f4).blk (Hs.length+5)=E2.blk (Hs.length+5):=FM.blk _ hl;rw[e];exact Ou.frame f4
 have Gs:(V3.upd Wg v8).role=.fork c Wg (n4 x deep i):=h3.role;have PD:(E3.frame f4).fr c=some rQ:=by
  show (if c=Wg then _ else _)=_;rw[if_neg dI.ne];exact h3.D_
 have PE:(E3.frame f4).fr Wg=some v8:=by
  show (if Wg=Wg then _ else _)=_;rw[if_pos rfl]
 generalize E3.frame f4=E4 at lI OI PD PE;generalize V3.upd Wg v8=V4 at lI Gs;generalize a2.put (some 19) (.tuple #[])=a4 at lI;clear rR;refine GW (K:=λs'=>look s'.T 20=some (.fn (.func 97) [] [.val (pW Wg 0),.op Hs.length 0,.op (Hs.length+5) 0,.op (Hs.length+1) 0,.op (Hs.length+3) 0])/\s'.Sub ⟨jg Hs Wg n i,Hs++(de x deep c++[.part 1 [iv i] 3])⟩) 1 1 rfl (by kernel_rfl) lI.ah ?_ λE5 V5 a5 s5 fV jM hK=> ?_
 ·unfold jg de;(try simp only[seval,T_,UA,Ug,TP]);exact fx (by simp only[seval];simp[bN,Wk.refl]) rfl
 obtain⟨l20,lg⟩:=hK;have Et:=jM.sub lg;have cq:=lI.step fV Et;have CI:V5.role=.fork c Wg (n4 x deep i):=fV.role.trans Gs;have u7:E5.fr c=some rQ:=by rw[fV.le.fr];exact PD
 have A':E5.fr Wg=some v8:=by rw[fV.le.fr];exact PE
 have dk5:=OI.mono fV.le;have pu:Hs.length+5<E4.n:=by rw[lI.ah.br.n];simp[de]
 refine M8 rfl rfl ?_;obtain⟨c1,c2,c3⟩:=cq.ah.br.fr c _ u7;obtain⟨v1,v2,v3⟩:=cq.ah.br.fr Wg _ A';have e20:a5.eval (.tmp 20)=.func (.func 97) #[] #[pW Wg 0,rv,.pointer (some ⟨E5.blk (Hs.length+5),0,none⟩),dv,fv]:=by
  obtain⟨fa,ca,q1,q2,q3⟩:=Oz (jM.tok 20 _ l20).2;rw[DY q2]at q1;refine q1.trans ?_;have Kw:ca.size=5:=q3.1;have k0:=tr (q3.2 0 _ rfl);have k1:=A2 (q3.2 1 _ rfl);have k2:=A2 (q3.2 2 _ rfl);have k3:=A2 (q3.2 3 _ rfl);have k4:=A2 (q3.2 4 _ rfl);rw[<- cq.er]at k1;rw[<- cq.ed]at k3;rw[<- cq.ef]at k4;congr 1;refine Array.ext Kw λj h1 h2=> ?_;have hj:j=0\/j=1\/j=2\/j=3\/j=4:=by omega
  rw[SI,SK (by omega)]at k0 k1 k2 k3 k4;rcases hj with rfl|rfl|rfl|rfl|rfl
  ·exact k0
  ·exact k1
  ·exact k2
  ·exact k3
  ·exact k4
 refine⟨rfl,.tmp 20,97,#[],_,rfl,e20,cq.deaf,.inl ⟨c,Wg,n4 x deep i,pS x deep i,[],CI,c1,?_,?_,v2,λJ0 C=> ?_,?_⟩⟩
 ·rw[v1,MF]
 ·rw[MF];omega
 ·have hb:E5.blk (Hs.length+5)=E4.blk (Hs.length+5):=fV.le.blk _ pu;rw[hb];have:=aru (J:=J0) (V:={ab:=V5.ab,own:=λ_=>none,deaf:=0,role:=.work c Wg [pS x deep i]}) C hx hi (hA i hi) (afQ cq.ah.br.I rfl rfl) (cq.dr.bare (amk x)) (dk5.bare (by simp[xx,eE])) (cq.dd.bare (by simp[xx,eE])) (cq.df.bare (by simp[xx,eE])) rfl rfl;simpa using this
 let V6:View:={V5 with role:=.fork c Wg (n4 x deep i++[[pS x deep i]])};have HW:Conc (E5.frame E5.fr) V6 (Hs++(de x deep c++[.part 1 [iv i] 3])):=by
  refine cq.ah.br.xI (V':=V6) _ rfl (λ_ _ _ _ _ _ h=>h) (λg hg=> ?_) (λg hg=> ?_) (λhm=>by rw[cq.main]at hm;cases hm) cq.ah.br.fr
  ·cases hg;exact⟨by show V5.own Wg≠none;rw[v1];simp,v2,v3⟩
  ·cases hg;exact⟨by show V5.own c≠none;rw[c1];simp,c2,c3⟩
 have nL:jb x deep Hs E c Wg rv dv fv (jg Hs Wg n i) [.part 1 [iv i] 3] E5 V6 (a5.put none undef):=⟨⟨HW,cq.ah.tok,cq.ah.size⟩,cq.lo,cq.main,cq.defers,cq.deaf,cq.er,cq.ed,cq.ef,cq.dr,cq.dd,cq.df,cq.fr,cq.ne⟩;show WP true SC none _ _ (a5.put none undef) V6;refine nL.to (jg Hs Wg n (i+1)) [.part 1 [iv i] 3] ?_ λE7 V7 a7 nQ By=> ?_
 ·unfold jg de;have hw:SF.wrap ((i:Int)+1)=(i:Int)+1:=bC _ (by omega);refine aj ?_;simp only[seval,hw];exact fx (by simp only[seval];simp[bN,Wk.refl]) rfl
 have eU:=jb.cut (M:=[]) (T':=jg Hs Wg n (i+1)) By yE (by
  unfold jg;simp only[Xg,S0,false_imp_iff,implies_true,and_true,look,Zy,if_false,if_true,Tl,exists_eq_left',Wk.refl,true_and,eE,aaj,UP];omega) ay
 refine hQ _ V7 a7 ⟨eU,?_,?_,?_⟩
 ·rw[nQ.role,apJ]
 ·show E7.fr c=_;rw[nQ.le.fr];exact u7
 ·show E7.fr Wg=_;rw[nQ.le.fr];exact A'
end
namespace Tk
theorem abe{hs:List (List Int)}{h:List Int}(hn:hs.Nodup):(jn hs h).Nodup:=by
 unfold jn;split
 ·exact hn
 ·rename_i hm;rw[U4];exact⟨hn,by simp,λa ha b hb=>by rw[S5.1 hb];exactλe=>hm (e▸ha)⟩
theorem aqA{x:ak}{deep:Int}{Q:Kn}{t:List Int}(hn:Q.aK.Nodup):(ej x deep Q t).aK.Nodup:=by
 have hB:(ju Q t).aK.Nodup:=by unfold ju;split<;>exact hn
 unfold ej;dsimp only;generalize ju Q t=R at hB;split
 ·exact hB
 ·split
  ·exact abe hB
  ·exact hB
theorem ars{x:ak}{deep:Int}{bc:Nat}:(gq x deep bc).aK.Nodup:=by
 unfold gq;have key:∀(ts:List (List Int))(Q:Kn),Q.aK.Nodup->(ts.foldl (ej x deep) Q).aK.Nodup:=by
  intro ts;induction ts with
  |nil=>exactλQ h=>h
  |cons t ts ih=>exactλQ h=>ih _ (aqA h)
 exact key _ _ WM
theorem Ps:∀{l hs:List (List Int)},(∀y∈hs,y.length=4)->(∀y∈l,y.length=4)->∀y∈l.foldl jn hs,y.length=4
 |[],hs,h1,_=>h1
 |a::l,hs,h1,h2=>by rw[UW];exact Ps (abc h1 (h2 a (by simp))) (λy hy=>h2 y (by simp[hy]))
theorem F9{l m:List Nat}(h:l.length=m.length):(lr l m).length=l.length:=by simp[lr,h]
theorem F_{l m:List Nat}(h1:∀n∈l,n<65536)(h2:∀n∈m,n<65536):∀n∈lr l m,n<65536:=λn hn=>by
 unfold lr at hn;rw[UO]at hn;obtain⟨i,hi⟩:=hn;rw[List.getElem?_zipWith]at hi;cases ha:l[i]?with
 |none=>rw[ha]at hi;cases hi
 |some a=>
  cases hb:m[i]?with
  |none=>rw[ha,hb]at hi;cases hi
  |some b=>
   rw[ha,hb]at hi;cases hi;exact oS (h1 _ (Ti ha)) (h2 _ (Ti hb))
theorem Sb{F G:Kn}{hs:List (List Int)}(hF:bH F)(hG:bH G)(hp:hs.Perm G.aK):bH (gE F hs G):=by
 unfold gE;split
 ·refine⟨(F9 (by rw[hF.aA,hG.aA])).trans hF.aA,(F9 (by rw[hF.hours,hG.hours])).trans hF.hours,(F9 (by rw[hF.less,hG.less])).trans hF.less,(F9 (by rw[hF.aS,hG.aS])).trans hF.aS,?_,F_ hF.lV hG.lV,F_ hF.mf hG.mf,F_ hF.mu hG.mu,F_ hF.lw hG.lw,Ps hF.h4 λy hy=>hG.h4 y (hp.mem_iff.1 hy)⟩;split
  ·exact hG.first
  ·exact hF.first
 ·exact hF
inductive nv (x:ak)(deep:Int):List Nat->Kn->Prop where
 |nil:nv x deep [] Kn.zero
 |snoc {js:List Nat} {F:Kn} {j:Nat} {hs:List (List Int)} (h:nv x deep js F) (hp:hs.Perm (gq x deep j).aK):nv x deep (js++[j]) (gE F hs (gq x deep j))
end Tk
theorem wm.work{x:ak}{deep:Int}{j:Nat}(hA:wm x)(hx:x.Ok)(hj:j<=3):bH (gq x deep j):=M4 hx (hA j hj)
def my (x:ak)(deep:Int)(n:Nat)(js:List Nat):List (List Spec):=(SV n).map λk=>if k∈js then[]else[pS x deep k]
theorem apM(x:ak)(deep:Int)(n:Nat):my x deep n []=n4 x deep n:=by simp[my,n4]
theorem apL{x:ak}{deep:Int}{n j:Nat}{js:List Nat}{sp:Spec}{S:List Spec}(h:(my x deep n js)[j]?=some (sp::S)):j<n/\j∉js/\sp=pS x deep j/\S=[]:=by
 unfold my at h;rw[To]at h;obtain⟨k,h1,h2⟩:=Tq.1 h;have hk:j<n/\k=j:=by
  have:=SN.1 h1;obtain⟨h3,h4⟩:=this;simp at h3 h4;exact⟨h3,h4.symm⟩
 obtain⟨h3,rfl⟩:=hk;split at h2
 ·cases h2
 ·rename_i hm;cases h2;exact⟨h3,hm,rfl,rfl⟩
theorem apN{x:ak}{deep:Int}{n j:Nat}{js:List Nat}:(my x deep n js).set j []=my x deep n (js++[j]):=by
 apply Yp;intro k;unfold my;rw[UR,To,To,Tn,List.length_range];by_cases hk:k<n
 ·rw[Xz hk];by_cases hj:j=k
  ·subst hj;rw[if_pos rfl,if_pos hk];simp
  ·rw[if_neg hj];have e:(k∈js++[j])<->k∈js:=by
    rw[SS,S5];exact⟨λh=>h.elim id λe=>absurd e.symm hj,.inl⟩
   simp only[UM,e]
 ·have e:(SV n)[k]?=none:=Uu (by simp;omega);rw[e];by_cases hj:j=k
  ·subst hj;rw[if_pos rfl,if_neg hk];rfl
  ·rw[if_neg hj];rfl
theorem apK{x:ak}{deep:Int}{n:Nat}{js:List Nat}(h:∀S∈my x deep n js,S=[]):∀k,k<n->k∈js:=λk hk=>by
 apply Tu;intro hn;have:=h [pS x deep k] (Tm.2 ⟨k,by simpa using hk,by rw[if_neg hn]⟩);cases this
theorem alq{E:Env}{K:Kn}{mp b:Nat}(hb:E.blk mp=b)(hm:mp<E.n):ap E (.agg (K.l mp)) (.agg (qV K b).toArray):=by
 subst hb;refine .agg (by simp[Kn.l,qV]) λi a e=> ?_
 match i with
 |0=>cases e;exact .val _
 |1=>cases e;exact .mp hm
 |i+2=>
  have e':(K.l mp)[i+2]?=((K.aA.map (λn:Nat=>SG .u16 n)++(K.hours.map (λn:Nat=>SG .u16 n)++(K.less.map (λn:Nat=>SG .u16 n)++(K.aS.map (λn:Nat=>SG .u16 n)++K.first.map (SG .i64))))).map AV.val)[i]?:=by
   simp[Kn.l,wv,iv,YA]
  rw[e',To]at e;obtain⟨z,h1,rfl⟩:=Tq.1 e;have h2:(qV K (E.blk mp))[i+2]?=some z:=h1;rw[SI,Ve,h2];exact .val _
theorem ui(K:Kn)(mp:Nat):∀a∈K.l mp,a.leaf=true:=λa ha=>by
 simp only[Kn.l,SL,SS,Tm]at ha;rcases ha with rfl|rfl|⟨_,_,rfl⟩|⟨_,_,rfl⟩|⟨_,_,rfl⟩|⟨_,_,rfl⟩|⟨_,_,rfl⟩<;>rfl
theorem aeT{lv:Bool}{P:SJ}{r:Option Nat}{nt:Nat}{E:Env}{V:View}{a:Act}{s:AS}{c:T9}{Q:Ex->Act->View->Prop}{α:Type}(p:α->Prop)(S3:α->AS)(ah:At E V s a nt)(h:aU lv P r nt c s (λe s'=>match e with|.normal=>∃q,p q/\s'.Sub (S3 q)|_=>False))(hQ:∀q E' V' a',p q->Kept E E' V V' a a'->At E' V' (S3 q) a' nt->Q .normal a' V'):WP lv P r c Q a V:=
 h E V a Q ah λae e E' V' a' s' hk aQ he hΦ=>by
  cases ae<;>cases e<;>first
   |exact he.elim
   |exact hΦ.elim
   |(obtain⟨q,h1,h2⟩:=hΦ
     exact hQ q E' V' a' h1 hk (aQ.sub h2))
theorem af4{E:Env}(l:List SO):ap E (.agg (l.map .val)) (.agg l.toArray):=by
 refine .agg (by simp) λi a e=> ?_;rw[To]at e;obtain⟨z,h1,rfl⟩:=Tq.1 e;rw[SI,Ve,h1];exact .val _
def Nh:List SO:=.bool false:: .map none::(TM 15 (.int .u16 0)++TM 11 (.int .i64 0))
def gQ (Hs:List aa)(F:Kn):List aa:=[setH F.aK,.cells (F.l (Hs.length+5)) 88]
noncomputable def iV (Hs:List aa):List (Nat×AV):=[(8,.op (Hs.length+6) 0),(5,.op (Hs.length+3) 0),(4,.op (Hs.length+2) 0)]
structure Dp (x:ak)(deep:Int)(n:Nat)(Hs:List aa)(E:Env)(c Wg:Nat)(rv dv fv:SO)(js:List Nat)(F:Kn)(T:List (Nat×AV))(G:List aa)(E':Env)(V':View)(a':Act):Prop where
 ok:jb x deep Hs E c Wg rv dv fv T (gQ Hs F++G) E' V' a'
 role:V'.role=.recv c Wg (my x deep n js)
 Sc:nv x deep js F
 kn:bH F
 nodup:js.Nodup
 lt:∀j∈js,j<n
noncomputable def Sl:T9:=ci (ci (cs (cs (cs lT))))
theorem alr{x:ak}{deep:Int}{Hs:List aa}{c:Nat}{F:Kn}(hH:bM Hs):bM (Hs++(de x deep c++gQ Hs F)):=by
 refine Sm hH λz hz=> ?_;simp only[gQ,SL,S0,or_false]at hz;rcases hz with rfl|rfl
 ·trivial
 ·exact xq (by simp[gQ])
theorem amr{V:View}{Im:cm}{b:Nat}{K:Kn}{w:Tp}(hS:Sat V w)(hI:∀b o x,Im b o=some x->w.cell? ⟨b,o,none⟩=some x)(hb:w.heap[b]?=some (qU K)):∀o,V.ab b o=none/\Im b o=none:=λo=>by
 have hc:w.cell? ⟨b,o,none⟩=none:=by simp[Ux,hb,qU]
 constructor
 ·cases h:V.ab b o with
  |none=>rfl
  |some v=>have:=hS.ab b o v h;rw[hc]at this;cases this
 ·cases h:Im b o with
  |none=>rfl
  |some v=>have:=hI b o v h;rw[hc]at this;cases this
section
variable {x:ak}{deep:Int}{n:Nat}{Hs:List aa}{E:Env}{c Wg:Nat}{js:List Nat}{D:Kn}{rv dv fv:SO}{T T':List (Nat×AV)}{G G':List aa}{E1 E2:Env}{V1 V2:View}{a1 a2:Act}
theorem alt(hx:x.Ok)(hA:wm x)(Rc:n<=4)(yE:E.n<=Hs.length)(bT:bM Hs)(h:Dp x deep n Hs E c Wg rv dv fv js D (iV Hs) [] E1 V1 a1){Q:Ex->Act->View->Prop}
  (hQ:∀j D' E2 V2 a2,j∉js->Dp x deep n Hs E c Wg rv dv fv (js++[j]) D' (iV Hs) [] E2 V2 a2->Q .normal a2 V2)
  (En:∀E2 V2 a2 G,At E2 V2 ⟨[(4,.op (Hs.length+2) 0)],Hs++([.part 6 x.l 76,.part 1 [iv deep] 3,.cells (D.l (Hs.length+5)) 88,.part 1 [.val (.chan (some c))] 139,.gone,setH D.aK]++G)⟩ a2 35->E.Lo E2->a2.defers=[]->V2.deaf=0->V2.role=.plain->(∀b y,E.fr b=some y->E2.fr b=some y)->(∀k,k<n->k∈js)->Q .ret a2 V2):WP true SC none Sl Q a1 V1:=by
 refine wp_block (id:=3) (wp_seq ?_);refine GW (K:=λs'=>look s'.T 26=some (.val (.chan (some c)))/\s'.Sub ⟨iV Hs,Hs++(de x deep c++(gQ Hs D++[]))⟩) 1 7 rfl (by kernel_rfl) h.ok.ah ?_ λE3 V3 a3 s3 vA pk hK=> ?_
 ·unfold iV de gQ;(try simp only[seval]);exact fx (by simp only[seval];simp[bN,Wk.refl]) rfl
 obtain⟨l26,lg⟩:=hK;have dI:=h.ok.step vA (pk.sub lg);have ro3:V3.role=.recv c Wg (my x deep n js):=vA.role.trans h.role;have e26:a3.eval (.tmp 26)=.chan (some c):=tr (pk.tok 26 _ l26).2;obtain⟨ti,vG,hzi⟩:=Td.1 F.Nu;refine arx rfl rfl (.inr ?_);refine⟨rfl,c,Wg,my x deep n js,.both,88,ti,_,e26,by kernel_rfl,vG,hzi,ro3,dI.deaf,λj sp S v Im Ow r1 r2 r3 r4 r5=> ?_,λhS=> ?_⟩
 ·
  obtain⟨oD,gZ,rfl,rfl⟩:=apL r1;obtain⟨b,hv,Ja⟩:=r2;have wP:bH (gq x deep j):=hA.work hx (by omega);have P8:(gq x deep j).aK.Nodup:=ars;obtain⟨W,hW⟩:∃W,W=gq x deep j:=⟨_,rfl⟩;rw[<- hW]at hv Ja wP P8;let o0:View:={V3 with ab:=λb o=>match V3.ab b o with|some x=>some x|none=>Im b o,role:=.recv c Wg ((my x deep n js).set j [])};obtain⟨Su,Oi⟩:=dI.ah.br.alS (V':=o0) rfl (λb o v e=>by show (match V3.ab b o with|some x=>some x|none=>Im b o)=some v;rw[e]) (λb o hb e=>by
   show (match V3.ab b o with|some x=>some x|none=>Im b o)=none;rw[e];apply Tu;intro aC;exact absurd e (r4 b o hb aC)) rfl rfl (λhm=>by rw[dI.main]at hm;cases hm)
  have I_:Ow b=some (qU W):=by rw[Ja];simp
  obtain⟨w,hSw,hIw,hww⟩:=r5;have jh:=amr hSw hIw (hww b _ I_);have iP:V3.own b=none:=by
   apply Tu;intro aC;have:=r3 b aC;rw[I_]at this;cases this
  have JC:o0.fresh b:=⟨iP,λo=>by
   show (match V3.ab b o with|some x=>some x|none=>Im b o)=none;rw[(jh o).1];exact(jh o).2⟩
  have ajX:E3.n=Hs.length+7:=by rw[dI.ah.br.n];simp[de,gQ]
  have rR:=Oi.add JC (qU W) (x:=.obj (qU W)) ⟨by rw[Env.dB];simp[View.upd],rfl,rfl,λo=>by rw[Env.dB];exact JC.2 o⟩ (λb' e=>by
   simp only[bJ,Env.dB,Tl]at e;exact e.symm)
  have P5:o0.upd b (qU W)={V3 with ab:=λb o=>match V3.ab b o with|some x=>some x|none=>Im b o,own:=λb=>match V3.own b with|some x=>some x|none=>Ow b,role:=.recv c Wg ((my x deep n js).set j [])}:=by
   have:(λb'=>if b'=b then some (qU W)else V3.own b')=λb=>match V3.own b with|some x=>some x|none=>Ow b:=by
    funext b';by_cases hb:b'=b
    ·subst hb;rw[if_pos rfl,iP,I_]
    ·rw[if_neg hb];cases du:V3.own b' with
     |some y=>rfl
     |none=>simp[Ja,hb]
   show View.mk _ _ _ _=View.mk _ _ _ _;congr 1
  have PS:(({E3 with I:=o0.ab}:Env).add b o0.ab).blk (Hs.length+7)=b:=by rw[<- ajX];exact Env.dB ({E3 with I:=o0.ab}:Env) b _
  have Lr:E3.Le (({E3 with I:=o0.ab}:Env).add b o0.ab):=Su.trans (Env.pK _ b λ_ _ _ e=>e);have aj4:(({E3 with I:=o0.ab}:Env).add b o0.ab).n=Hs.length+8:=by show E3.n+1=_;omega
  rw[P5]at rR;generalize hE4:(({E3 with I:=o0.ab}:Env).add b o0.ab)=E4 at rR PS Lr aj4;have bi:ap E4 (.aJ [.agg (W.l (Hs.length+7)),bv true]) (.tuple #[v,.bool true]):=by
   subst hv;refine .aJ rfl λq a e=> ?_
   match q,e with
   |0,e=>cases e;exact alq PS (by omega)
   |1,e=>cases e;exact .val _
  have ai3:Hs++(de x deep c++(gQ Hs D++[]))++[aa.obj (qU W)]=Hs++(de x deep c++(gQ Hs D++[setH W.aK])):=by simp[setH,qU]
  rw[ai3]at rR;clear P5 hE4 Oi Su JC;generalize P6:({V3 with ab:=λb o=>match V3.ab b o with|some x=>some x|none=>Im b o,own:=λb=>match V3.own b with|some x=>some x|none=>Ow b,role:=.recv c Wg ((my x deep n js).set j [])}:View)=V4 at rR;have Gs:V4.role=.recv c Wg (my x deep n (js++[j])):=by rw[<- P6];show mD.recv c Wg _=_;rw[apN]
  have de4:V4.deaf=V3.deaf:=by rw[<- P6]
  have qy:At E4 V4 ⟨(27,.aJ [.agg (W.l (Hs.length+7)),bv true])::iV Hs,Hs++(de x deep c++(gQ Hs D++[setH W.aK]))⟩ (a3.put (some 27) (.tuple #[v,.bool true])) 35:=⟨rR,(dI.ah.tok.mono Lr).put (by rw[dI.ah.size];omega) bi,(dR a3 (some 27) _).trans dI.ah.size⟩;have lI:jb x deep Hs E c Wg rv dv fv ((27,.aJ [.agg (W.l (Hs.length+7)),bv true])::iV Hs) (gQ Hs D++[setH W.aK]) E4 V4 (a3.put (some 27) (.tuple #[v,.bool true])):=
   dI.GG Lr (put_defers a3 _ _) de4 qy
  have Eo:=Kn.len wP (Hs.length+7);refine M9 ⟨(10,bv true)::(9,.op (Hs.length+8) 0)::iV Hs,Hs++(de x deep c++(gQ Hs D++[setH W.aK,.cells (W.l (Hs.length+7)) 88]))⟩ rfl (by kernel_rfl) qy ?_ λE5 V5 a5 fV jM=> ?_
  ·unfold iV de gQ;(try simp only[seval,Eo]);exact⟨ui _ _,fx (by simp only[seval];simp[bN,Wk.refl]) rfl⟩
  have cq:=lI.step fV jM;have CI:V5.role=.recv c Wg (my x deep n (js++[j])):=fV.role.trans Gs;refine wp_seq (wp_seq ?_);refine cq.to ((31,bv false)::(9,.op (Hs.length+8) 0)::iV Hs) (gQ Hs D++[setH W.aK,.cells (W.l (Hs.length+7)) 88]) ?_ λE6 V6 a6 JW nL=> ?_
  ·unfold iV de gQ;refine ai ?_;exact fx (by simp only[seval];simp[bN,Wk.refl]) rfl
  refine M5 nL.ah rfl ?_;refine wp_skip ?_;refine aeT (λhs:List (List Int)=>hs.Perm W.aK) (λhs=>⟨iV Hs,Hs++(de x deep c++(gQ Hs (gE D hs W)++[setH W.aK,.cells (W.l (Hs.length+7)) 88]))⟩) nL.ah ?_ λhs E7 V7 a7 Kj nQ Jj=> ?_
  ·unfold iV de gQ;refine aj ?_;simp only[seval,Eo];rw[SX (i:=28) (by omega)];refine aM ((agY (fp:=Hs.length+6) (mp:=Hs.length+5) (mg:=Hs.length+7) h.kn wP (by omega) (by omega) (by rw[a_];rfl) (by rw[a_];rfl) (by rw[a_];rfl) P8 ?_));intro hs hp;rw[dX,dX];(try simp only[seval]);exact⟨hs,hp,fx (by simp only[seval];simp[bN,Wk.refl]) rfl⟩
  have By:=nL.step nQ Jj;have eU:=jb.cut (T':=iV Hs) By yE (by
   unfold iV gQ;simp only[Xg,S0,false_imp_iff,implies_true,and_true,look,Zy,if_false,if_true,Tl,exists_eq_left',Wk.refl,true_and,aaj,Uj,UP];omega) (alr bT)
  have ji:nv x deep (js++[j]) (gE D hs W):=by
   rw[hW]at Kj⊢;exact h.Sc.snoc Kj
  refine hQ j (gE D hs W) _ V7 a7 gZ ⟨by rw[SY];exact eU,?_,ji,Sb h.kn wP Kj,?_,?_⟩
  ·rw[nQ.role,JW.role];exact CI
  ·rw[U4];exact⟨h.nodup,by simp,λa ha b hb=>by rw[S5.1 hb];exactλe=>gZ (e▸ha)⟩
  ·intro k hk;rcases SS.1 hk with h'|h'
   ·exact h.lt k h'
   ·rw[S5.1 h'];exact oD
 ·
  have eI:=apK hS;let V4:View:={V3 with role:=.plain};have rR:Conc (E3.frame E3.fr) V4 (Hs++(de x deep c++(gQ Hs D++[]))):=
   dI.ah.br.xI (V':=V4) _ rfl (λ_ _ _ _ _ _ h=>h) (λg hg=>by cases hg) (λg hg=>by cases hg) (λhm=>by rw[dI.main]at hm;cases hm) dI.ah.br.fr
  have bi:ap E3 (.aJ [.agg iZ,bv false]) (.tuple #[.agg Nh.toArray,.bool false]):=by
   refine .aJ rfl λq a e=> ?_
   match q,e with
   |0,e=>cases e;exact af4 Nh
   |1,e=>cases e;exact .val _
  have qy:At E3 V4 ⟨(27,.aJ [.agg iZ,bv false])::iV Hs,Hs++(de x deep c++(gQ Hs D++[]))⟩ (a3.put (some 27) (.tuple #[.agg Nh.toArray,.bool false])) 35:=⟨rR,dI.ah.tok.put (by rw[dI.ah.size];omega) bi,(dR a3 (some 27) _).trans dI.ah.size⟩;have lI:=dI.GG (V2:=V4) (Env.Le.refl E3) (put_defers a3 (some 27) _) rfl qy;have nT:iZ.length=28:=rfl;have fb:=Kn.len h.kn (Hs.length+5);refine M9 ⟨(10,bv false)::iV Hs,Hs++(de x deep c++(gQ Hs D++[.cells iZ 88]))⟩ rfl (by kernel_rfl) qy ?_ λE5 V5 a5 fV jM=> ?_
  ·unfold iV de gQ;(try simp only[seval,nT]);exact⟨λa ha=>by simp only[iZ,SL,SS,Xy]at ha;rcases ha with rfl|rfl|⟨_,rfl⟩|⟨_,rfl⟩<;>rfl,fx (by simp only[seval];simp[bN,Wk.refl]) rfl⟩
  have cq:=lI.step fV jM;refine wp_seq (wp_seq ?_);refine cq.to ((31,bv true)::iV Hs) (gQ Hs D++[.cells iZ 88]) ?_ λE6 V6 a6 JW nL=> ?_
  ·unfold iV de gQ;refine ai ?_;exact fx (by simp only[seval];simp[bN,Wk.refl]) rfl
  refine M5 nL.ah rfl ?_;refine wp_seq ?_;refine yd ⟨[(4,.op (Hs.length+2) 0)],Hs++([.part 6 x.l 76,.part 1 [iv deep] 3,.cells (D.l (Hs.length+5)) 88,.part 1 [.val (.chan (some c))] 139,.gone,setH D.aK]++[.cells (D.l (Hs.length+5)) 88,.cells iZ 88])⟩ nL.ah ?_ λE7 V7 a7 nQ Jj=> ?_
  ·unfold iV de gQ;refine aj ?_;simp only[seval,fb,nT];rw[SX (i:=28) (l:=D.l (Hs.length+5)) (by omega)];exact⟨fb,by omega,ui _ _,fx (by simp only[seval];simp[bN,Wk.refl]) (by rw[fb,TU (by rw[nT];exact SQ _),SY])⟩
  refine wp_ret ?_;exact En E7 V7 a7 _ Jj (nL.lo.trans nQ.le.lo) (nQ.defers.trans nL.defers) (nQ.deaf.trans nL.deaf) (nQ.role.trans (JW.role.trans fV.role)) (λb y e=>by rw[nQ.le.fr];exact(nL.fr b y e).1) eI
end
open Go.Conc Go.Proofs Go.Gg.Tk
theorem aoO{P:SJ}{rs:List UL}{fn:YF}{nt:Nat}{k kp:AV->List aa->Prop}{E E':Env}{V V':View}{H L G:List aa}{T:List (Nat×AV)}{a':Act}{av:AV}(hr:fn.results=rs.toArray)(ah:At E' V' ⟨T,H.map strip++(L++G)⟩ a' nt)(oE:E.Lo E')(hc:Conc E V H)(bX:V'.role=V.role)(eK:V'.deaf=V.deaf)(hf:∀b y,E.fr b=some y->E'.fr b=some y)
  (fW:gG P ⟨T,H.map strip++(L++G)⟩ rs=some [av]) (hL:L.map strip=L) (ay:bM (H.map strip++L)) (hlt:Lt (H.length+L.length) av) (hk:k av (H++L)):∃v,aO P V' (results fn a'.tmps) (λx aR=>x=v/\aR=V') (λ_ _=>False)/\gz E V k kp (.ret v) V':=by
 obtain⟨vs,hl,lm,xc⟩:=Gq ah rs [av] fW;obtain⟨v,rfl⟩:∃v,vs=[v]:=List.length_eq_one_iff.1 hl;have bi:ap E' av v:=lm 0 av rfl;have pD:aO P V' (results fn a'.tmps) (λx aR=>x=v/\aR=V') (λ_ _=>False):=by
  unfold results;rw[hr,XZ];refine az ?_;refine az (xc ?_);refine aq (aq ⟨?_,rfl⟩);simp
 have Jq:=ah.br;dsimp only at Jq;rw[<- SD]at Jq;have eU:=Jq.trim (H:=H.map strip++L) (G:=G) ay;have hlen:(H.map strip++L).length=H.length+L.length:=by simp
 rw[hlen]at eU;have tS:(H++L).map strip=H.map strip++L:=by rw[TF,hL]
 rw[<- tS]at eU;refine⟨v,pD,av,((({E' with n:=H.length+L.length}:Env).eY E.main).frame E.fr),H++L,?_,bX,eK,?_,eU.aoF E.main E.fr (λk e=> ?_) (λe=>by rw[bX,eK];exact hc.top e) hf,hk⟩
 ·refine Env.Lo.le (E':={E' with n:=H.length+L.length}) ⟨oE.I,?_,oE.blk,oE.fh,oE.room⟩;show E.n<=H.length+L.length;rw[hc.n];omega
 ·exact((bi.trim hlt).eY E.main).frame E.fr
 ·by_cases BN:k<H.length
  ·rw[SZ BN]at e;exact hc.obj k _ e
  ·rw[Tj (by omega)]at e;have h2:(L.map strip)[k-H.length]?=some .gone:=(by rw[To,e];rfl);rw[hL,e]at h2;cases h2
section
variable {x:ak}{deep:Int}{Hs:List aa}{E:Env}{c Wg p:Nat}{rv dv fv:SO}{T:List (Nat×AV)}{E1:Env}{V1:View}{a1:Act}
theorem alu(hx:x.Ok)(hA:wm x)(hp:x.an=p)(yE:E.n<=Hs.length)(bT:bM Hs)(h:uF x deep Hs E c Wg rv dv fv 0 [(6,.val (pW Wg 0)),(5,.op (Hs.length+3) 0),(4,.op (Hs.length+2) 0),(3,.op (Hs.length+1) 0),(2,.op Hs.length 0)] [] E1 V1 a1){Q:Ex->Act->View->Prop}
  (hQ:∀js D E2 V2 a2 G,js.Perm (SV (p+1))->nv x deep js D->bH D->At E2 V2 ⟨[(4,.op (Hs.length+2) 0)],Hs++([.part 6 x.l 76,.part 1 [iv deep] 3,.cells (D.l (Hs.length+5)) 88,.part 1 [.val (.chan (some c))] 139,.gone,setH D.aK]++G)⟩ a2 35->E.Lo E2->a2.defers=[]->V2.deaf=0->V2.role=.plain->(∀b y,E.fr b=some y->E2.fr b=some y)->Q .ret a2 V2):WP true SC none lT Q a1 V1:=by
 have hp3:p<=3:=by have:=hx.an;omega
 have akf:bM (Hs++(de x deep c++[])):=Sm bT (by simp);refine wp_seq (x:=cf lT) (wp_seq (x:=cf (cf lT)) ?_);refine h.ok.to (jg Hs Wg ((p+1:Nat):Int) 0) [] ?_ λE2 V2 a2 cz cN=> ?_
 ·show aU true SC none 35 (cf (cf lT)) _ _;unfold jg de;have bP:x.l=[iv x.first,iv x.hours,iv x.an,dS x.seen,aZ x.pieces,aZ x.aB]:=rfl;have hw:SF.wrap (x.an+1)=((p+1:Nat):Int):=by rw[hp,bC _ (by omega)];rfl
  refine aj ?_;simp only[seval,bP,hw];exact fx (by simp only[seval];simp[bN,Wk.refl]) rfl
 have h2:uF x deep Hs E c Wg rv dv fv 0 (jg Hs Wg ((p+1:Nat):Int) 0) [] E2 V2 a2:=h.step cz cN;refine wp_block (id:=0) (c:=.loop (ci (ci (cs (cf lT))))) ?_;refine wp_loop (λm a' V'=>∃E' i,m=p+1-i/\i<=p+1/\uF x deep Hs E c Wg rv dv fv i (jg Hs Wg ((p+1:Nat):Int) i) [] E' V' a') (p+1) ⟨E2,0,rfl,by omega,h2⟩ λm a3 V3 hI=> ?_;obtain⟨E3,i,rfl,hi,h3⟩:=hI;refine wp_seq (x:=cf (ci (ci (cs (cf lT))))) (y:=cs (ci (ci (cs (cf lT))))) ?_;refine h3.ok.to ((17,bv (decide ((i:Int)<((p+1:Nat):Int))))::jg Hs Wg ((p+1:Nat):Int) i) [] ?_ λE4 V4 a4 qD lI=> ?_
 ·show aU true SC none 35 (cf (ci (ci (cs (cf lT))))) _ _;unfold jg de;refine ai ?_;exact fx (by simp only[seval];simp[bN,Wk.refl]) rfl
 have ow:=h3.step qD lI;refine wp_seq (x:=.cond (.tmp 17) .skip (.exit 0)) (y:=cs (cs (ci (ci (cs (cf lT)))))) (M5 lI.ah rfl ?_);by_cases QI:i<p+1
 ·rw[show decide ((i:Int)<((p+1:Nat):Int))=true from decide_eq_true (by omega)];refine wp_skip ?_;have ajd:jb x deep Hs E c Wg rv dv fv (jg Hs Wg ((p+1:Nat):Int) i) [] E4 V4 a4:=lI.GG (Env.Le.refl E4) rfl rfl (lI.ah.sub (fx (by unfold jg de;simp only[seval];simp[bN,Wk.refl]) rfl));exact als hx hA yE akf ⟨ajd,ow.role,ow.D_,ow.A_⟩ (by omega) rfl λE5 V5 a5 h5=>⟨p+1-(i+1),by omega,E5,i+1,rfl,by omega,h5⟩
 have dl:i=p+1:=by omega
 subst dl;rw[show decide ((((p+1:Nat):Int))<((p+1:Nat):Int))=false by simp];refine wp_exit ?_;refine wp_seq (x:=cf (cs lT)) (y:=cs (cs lT)) ?_;refine GW (K:=λs'=>look s'.T 22=some (.fn (.func 100) [] [.val (pW Wg 0),.op (Hs.length+3) 0])/\s'.Sub ⟨[(5,.op (Hs.length+3) 0),(4,.op (Hs.length+2) 0)],Hs++(de x deep c++[])⟩) 1 1 rfl (by kernel_rfl) lI.ah ?_ λE5 V5 a5 s5 fV jM hK=> ?_
 ·unfold jg de;(try simp only[seval,T_,UA,Ug,TP]);exact fx (by simp only[seval];simp[bN,Wk.refl]) rfl
 obtain⟨Lj,lg⟩:=hK;have cq:=lI.step fV (jM.sub lg);have CI:V5.role=.fork c Wg (n4 x deep (p+1)):=fV.role.trans ow.role;have u7:E5.fr c=some rQ:=by rw[fV.le.fr];exact ow.D_
 have A':E5.fr Wg=some (wgBlock SC (((p+1:Nat):Int)* 4294967296) 0):=by rw[fV.le.fr];exact ow.A_
 obtain⟨c1,c2,c3⟩:=cq.ah.br.fr c _ u7;obtain⟨v1,v2,v3⟩:=cq.ah.br.fr Wg _ A';have e22:a5.eval (.tmp 22)=.func (.func 100) #[] #[pW Wg 0,fv]:=by
  obtain⟨fa,ca,q1,q2,q3⟩:=Oz (jM.tok 22 _ Lj).2;rw[DY q2]at q1;refine q1.trans ?_;have fI:ca.size=2:=q3.1;have k0:=tr (q3.2 0 _ rfl);have k1:=A2 (q3.2 1 _ rfl);rw[<- cq.ef]at k1;congr 1;refine Array.ext fI λj h1 h2=> ?_;have hj:j=0\/j=1:=by omega
  rw[SI,SK (by omega)]at k0 k1;rcases hj with rfl|rfl
  ·exact k0
  ·exact k1
 have hfc:V5.ab (E5.blk (Hs.length+3)) 0=some (.chan (some c)):=by
  have bw:=cq.df;rw[cq.ef]at bw;generalize hp:(Value.pointer (some ⟨E5.blk (Hs.length+3),0,none⟩))=pv at bw;cases bw with
  |rp b o f h1 h2=>
   cases hp;have:=h1 0 (by simp);rw[cq.ah.br.I]at this;rw[UJ]at this;rw[this,tr (h2 0 _ rfl)]
 refine M8 rfl rfl ?_;refine⟨rfl,.tmp 22,100,#[],_,rfl,e22,cq.deaf,.inr ⟨c,Wg,_,CI,cq.ne,c1,?_,c2,v2,?_,?_⟩⟩
 ·rw[v1,MF]
 ·have:=afN Wg (E5.blk (Hs.length+3)) c (Im:=V5.ab) hfc;rw[cq.ef];simpa[pW]using this
 let V6:View:={V5 with own:=λb=>if b=c\/b=Wg then none else V5.own b,role:=.recv c Wg (n4 x deep (p+1))};let f6:Nat->Option Obj:=λb=>if b=c\/b=Wg then none else E5.fr b;have HW:Conc (E5.frame f6) V6 (Hs++(de x deep c++[])):=by
  refine cq.ah.br.xI (V':=V6) _ rfl (λb z k w hk jY hz=> ?_) (λg hg=>by cases hg) (λg hg=>by cases hg) (λhm=>by rw[cq.main]at hm;cases hm) (λb y hb=> ?_)
  ·have n1:b≠c:=cq.ah.br.CB u7 hk jY;have n2:b≠Wg:=cq.ah.br.CB A' hk jY;show (if b=c\/b=Wg then none else V5.own b)=some z;rw[if_neg (λe=>e.elim n1 n2)];exact hz
  ·by_cases yN:b=c\/b=Wg
   ·simp only[f6,if_pos yN]at hb;cases hb
   ·simp only[f6,if_neg yN]at hb;obtain⟨q1,q2,q3⟩:=cq.ah.br.fr b y hb;refine⟨?_,q2,q3⟩;show (if b=c\/b=Wg then none else V5.own b)=some y;rw[if_neg yN];exact q1
 have nL:jb x deep Hs E c Wg rv dv fv [(5,.op (Hs.length+3) 0),(4,.op (Hs.length+2) 0)] [] (E5.frame f6) V6 (a5.put none undef):=by
  refine⟨⟨HW,cq.ah.tok.frame _,cq.ah.size⟩,cq.lo.trans (Env.FR E5 f6),cq.main,cq.defers,cq.deaf,cq.er,cq.ed,cq.ef,cq.dr.frame f6,cq.dd.frame f6,cq.df.frame f6,λb y e=> ?_,cq.ne⟩;obtain⟨q1,q2,q3⟩:=cq.fr b y e;refine⟨?_,q2,q3⟩;show (if b=c\/b=Wg then none else E5.fr b)=some y;rw[if_neg (λe=>e.elim q2 q3)];exact q1
 show WP true SC none (.seq (cf (cs (cs lT))) (cs (cs (cs lT)))) Q (a5.put none undef) V6;refine wp_seq ?_;refine nL.to (iV Hs) (gQ Hs Kn.zero) ?_ λE7 V7 a7 nQ By=> ?_
 ·show aU true SC none 35 (cf (cs (cs lT))) _ _;unfold iV de gQ;refine ai ?_;exact fx (by simp only[seval];simp[bN,Wk.refl]) rfl
 refine wp_block (id:=2) (c:=.loop Sl) ?_;have b_:Dp x deep (p+1) Hs E c Wg rv dv fv [] Kn.zero (iV Hs) [] E7 V7 a7:=⟨by rw[SY];exact By,by rw[nQ.role,apM],.nil,Co,WM,λj hj=>by cases hj⟩;refine wp_loop (λm a' V'=>∃E' js D,m=p+1-js.length/\Dp x deep (p+1) Hs E c Wg rv dv fv js D (iV Hs) [] E' V' a') _ ⟨E7,[],Kn.zero,rfl,b_⟩ λm a8 V8 hI=> ?_;obtain⟨E8,js,D,rfl,h8⟩:=hI;have hlen:∀js:List Nat,js.Nodup->(∀j∈js,j<p+1)->js.length<=p+1:=λjs hn hl=>by
  have:=hn.length_le_of_subset (l₂:=SV (p+1)) λj hj=>by simpa using hl j hj
  simpa using this
 refine alt hx hA (by omega) yE bT h8 (λj D' E9 V9 a9 hj h9=> ?_) λE9 V9 a9 G ai6 Lx Ib HX Mr wJ eI=> ?_
 ·have h1:=hlen _ h9.nodup h9.lt;simp only[S9,T7]at h1;exact⟨p+1-(js++[j]).length,by simp;omega,E9,js++[j],D',rfl,h9⟩
 ·have Kl:js.Perm (SV (p+1)):=by
   refine(List.perm_ext_iff_of_nodup h8.nodup WW).2 λk=> ?_;rw[TE];exact⟨h8.lt k,eI k⟩
  exact hQ js D E9 V9 a9 G Kl h8.Sc h8.kn ai6 Lx Ib HX Mr wJ
end
theorem ahK{x:ak}{deep:Int}{p:Nat}{H:List aa}{k kp:AV->List aa->Prop}(hx:x.Ok)(hA:wm x)(hp:x.an=p)(hm:H[0]?=some .main)(hk:∀js D L,js.Perm (SV (p+1))->nv x deep js D->bH D->L.length=5->k (.agg (D.l (H.length+5))) (H++(L++[setH D.aK]))):ba true SC 77 H [x.av,iv deep] k kp:=by
 intro E V vs hc hd;have hEm:E.main=true:=hc.obj 0 _ hm;obtain⟨iR,tL⟩:=hc.top hEm;have hn:E.n=H.length:=hc.n;refine N5 (by simp) F.f77 rfl ?_;have r_:At (E.eY false) V ⟨[(0,x.av),(1,iv deep)],H.map strip⟩ {tmps:=vs++TK (XN.ntmps-vs.size) undef,defers:=[]} 35:=by
  have:=AP (nt:=35) hc hd (by simp);exact⟨hc.af0,this.tok.eY false,this.size⟩
 have hlen:(H.map strip).length=H.length:=Tn _;have Ke:bM (H.map strip):=r_.br.ay
 suffices oF:∀Hs,H.map strip=Hs->WP true SC none uj (Ends SC XN (gz E V k kp)) {tmps:=vs++TK (XN.ntmps-vs.size) undef,defers:=[]} V from oF _ rfl
 intro Hs bT;rw[bT]at r_ hlen Ke;have Qe:({tmps:=vs++TK (XN.ntmps-vs.size) undef,defers:=[]}:Act).defers=[]:=rfl;generalize({tmps:=vs++TK (XN.ntmps-vs.size) undef,defers:=[]}:Act)=a0 at r_ Qe;have bP:x.l=[iv x.first,iv x.hours,iv x.an,dS x.seen,aZ x.pieces,aZ x.aB]:=rfl;refine wp_seq (x:=cf uj) (y:=cs uj) ?_;refine yd ⟨[(4,.op (Hs.length+2) 0),(3,.op (Hs.length+1) 0),(2,.op Hs.length 0)],Hs++[.cells x.l 76,.cells [iv deep] 3,.cells iZ 88]⟩ r_ ?_ λE2 V2 a2 cz tI=> ?_
 ·show aU true SC none 35 (cf uj) _ _;simp only[ak.av];refine ai ?_;exact fx (by simp only[seval];simp[bN,Wk.refl]) rfl
 obtain⟨ti,vG⟩:∃i,SC.info? 88=some i:=Option.isSome_iff_exists.1 (by kernel_rfl);refine wp_seq (x:=cf (cs uj)) (y:=cs (cs uj)) (acZ rfl rfl (ane rfl (d:=.both) (el:=88) (by kernel_rfl) vG λc vo=> ?_));let f3:Nat->Option Obj:=λb=>if b=c then some rQ else E2.fr b;have pk:At (E2.frame f3) (V2.upd c rQ) ⟨[(11,.val (.chan (some c))),(4,.op (Hs.length+2) 0),(3,.op (Hs.length+1) 0),(2,.op Hs.length 0)],Hs++[.cells x.l 76,.cells [iv deep] 3,.cells iZ 88]⟩ (a2.put (some 11) (.chan (some c))) 35:=
  ⟨tI.br.aiu vo rQ,(tI.tok.frame _).put (by rw[tI.size];omega) (.val _),(dR a2 (some 11) _).trans tI.size⟩
 refine M9 ⟨[(5,.op (Hs.length+3) 0),(4,.op (Hs.length+2) 0),(3,.op (Hs.length+1) 0),(2,.op Hs.length 0)],Hs++[.cells x.l 76,.cells [iv deep] 3,.cells iZ 88,.cells [.val (.chan (some c))] 139]⟩ rfl (by kernel_rfl) pk ?_ λE4 V4 a4 qD qy=> ?_
 ·(try simp only[seval,ant,arI,alD]);exact fx (by simp only[seval];simp[bN,Wk.refl]) rfl
 refine wp_seq (x:=cf (cs (cs uj))) (y:=lT) ?_;refine yd ⟨[(6,.op (Hs.length+4) 0),(5,.op (Hs.length+3) 0),(4,.op (Hs.length+2) 0),(3,.op (Hs.length+1) 0),(2,.op Hs.length 0)],Hs++[.cells x.l 76,.cells [iv deep] 3,.cells iZ 88,.cells [.val (.chan (some c))] 139,.cells [.val (.int .u64 0),.val (.int .u32 0)] 147]⟩ qy ?_ λE5 V5 a5 fV jM=> ?_
 ·show aU true SC none 35 (cf (cs (cs uj))) _ _;refine ai ?_;exact fx (by simp only[seval];simp[bN,Wk.refl]) rfl
 obtain⟨wcs,KM,hwo,xn,BB⟩:=jM.br.aiv (id:=Hs.length+4) (a_ _ _ 4);have akX:=OE (l:=[.int .u64 0,.int .u32 0]) KM;subst akX;rw[dX]at BB;simp only[UB,TZ]at BB;have OU:=jM.arj (t:=6) (id:=Hs.length+4) (off:=0) rfl;have PA:E5.fr=f3:=fV.le.fr.trans qD.le.fr;have u7:E5.fr c=some rQ:=by rw[PA];simp[f3]
 have aC:c≠E5.blk (Hs.length+4):=λe=>jM.br.CB u7 (a_ Hs _ 4) rfl e.symm;have PB:∀b y,E.fr b=some y->E5.fr b=some y/\b≠c/\b≠E5.blk (Hs.length+4):=λb y hb=>by
  have h2:E2.fr b=some y:=by rw[cz.le.fr];exact hb
  have yN:b≠c:=λe=>by subst e;have:=(tI.br.fr b y h2).1;rw[vo.1]at this;cases this
  have h5:E5.fr b=some y:=by rw[PA];simp[f3,yN,h2]
  exact⟨h5,yN,λe=>jM.br.CB h5 (a_ Hs _ 4) rfl e.symm⟩
 generalize yH:E5.blk (Hs.length+4)=Wg at hwo xn BB OU aC PB;let f6:Nat->Option Obj:=λb'=>if b'=Wg then some (wgBlock SC 0 0)else E5.fr b';have Qq:Conc (E5.frame f6) V5 (Hs++[.cells x.l 76,.cells [iv deep] 3,.cells iZ 88,.cells [.val (.chan (some c))] 139,.gone]):=by
  have:(λb'=>if b'=Wg then some (Obj.cells #[.int .u64 0,.int .u32 0] 147 (0,0))else E5.fr b')=f6:=by
   funext b';simp only[f6,wgBlock,wgT]
  rw[<- this];exact BB
 have Bt:At (E5.frame f6) V5 ⟨[(6,.val (pW Wg 0)),(5,.op (Hs.length+3) 0),(4,.op (Hs.length+2) 0),(3,.op (Hs.length+1) 0),(2,.op Hs.length 0)],Hs++[.cells x.l 76,.cells [iv deep] 3,.cells iZ 88,.cells [.val (.chan (some c))] 139,.gone]⟩ a5 35:=by
  refine⟨Qq,λt av e=> ?_,jM.size⟩;by_cases ht:t=6
  ·subst ht;cases e;refine⟨by rw[jM.size];omega,?_⟩;have:a5.tmps.getD 6 undef=pW Wg 0:=OU;rw[this];exact .val _
  ·refine(jM.tok.frame f6) t av ?_;simp only[look]at e⊢;rw[if_neg (Ne.symm ht)]at e⊢;exact e
 clear BB Qq;have lo6:E.Lo (E5.frame f6):=((((E.ama false).trans cz.le.lo).trans (Env.FR E2 f3)).trans (qD.le.lo.trans fV.le.lo)).trans (Env.FR E5 f6);have LB:(E5.frame f6).main=false:=fV.le.main.trans (qD.le.main.trans cz.le.main);have afX:a5.defers=[]:=fV.defers.trans (qD.defers.trans ((put_defers a2 _ _).trans (cz.defers.trans Qe)));have ro6:V5.role=.plain:=fV.role.trans (qD.role.trans (cz.role.trans iR));have de6:V5.deaf=0:=fV.deaf.trans (qD.deaf.trans (cz.deaf.trans tL));have IT:(E5.frame f6).fr c=some rQ:=by show f6 c=_;simp only[f6,if_neg aC];exact u7
 have IU:(E5.frame f6).fr Wg=some (wgBlock SC 0 0):=by show f6 Wg=_;simp[f6]
 have PC:∀b y,E.fr b=some y->(E5.frame f6).fr b=some y/\b≠c/\b≠Wg:=λb y hb=>by
  obtain⟨q1,q2,q3⟩:=PB b y hb;refine⟨?_,q2,q3⟩;show f6 b=_;simp only[f6,if_neg q3];exact q1
 generalize E5.frame f6=E6 at Bt lo6 LB IT IU PC;obtain⟨V7,g7,o7,r7,d7,vJ,DU,Ov⟩:=Bt.br.Gm (id:=Hs.length) (a_ _ _ 0) 6 (by simp[bP]);rw[show Hs.length=Hs.length+0 from rfl,dX]at DU;simp only[TZ]at DU;have acz:=Bt.tok.mono vJ;generalize hE7:({E6 with I:=V7.ab}:Env)=E7 at vJ DU Ov acz;obtain⟨V8,g8,o8,r8,d8,uk,DV,Ox⟩:=DU.Gm (id:=Hs.length+1) (a_ _ _ 1) 1 (by simp);rw[dX]at DV;simp only[UB,TZ]at DV;have acA:=acz.mono uk;generalize hE8:({E7 with I:=V8.ab}:Env)=E8 at uk DV Ox acA;obtain⟨V9,g9,o9,r9,d9,ul,wB,H2⟩:=DV.Gm (id:=Hs.length+3) (a_ _ _ 3) 1 (by simp);rw[dX]at wB;simp only[UB,TZ]at wB;have acB:=acA.mono ul;generalize hE9:({E8 with I:=V9.ab}:Env)=E9 at ul wB H2 acB;refine WP.ghost g7 (WP.ghost g8 (WP.ghost g9 ?_));have Lx:E.Lo E9:=lo6.trans ((vJ.trans uk).trans ul).lo;have Mr:V9.role=.plain:=r9.trans (r8.trans (r7.trans ro6));have HX:V9.deaf=0:=d9.trans (d8.trans (d7.trans de6));have wJ:E9.fr=E6.fr:=ul.fr.trans (uk.fr.trans vJ.fr);have n6:E6.n=Hs.length+5:=by rw[Bt.br.n];simp
 have b7:∀k,k<Hs.length+5->E9.blk k=E6.blk k/\E9.blk k=E7.blk k/\E9.blk k=E8.blk k:=λk hk=>by
  have n7:=vJ.n;have n8:=uk.n;have q7:=vJ.blk k (by omega);have q8:=uk.blk k (by omega);have q9:=ul.blk k (by omega);exact⟨by rw[q9,q8,q7],by rw[q9,q8],q9⟩
 obtain⟨c1,c2,c3⟩:=wB.fr c rQ (by rw[wJ];exact IT);obtain⟨v1,v2,v3⟩:=wB.fr Wg _ (by rw[wJ];exact IU);refine arw (c:=c) (Wg:=Wg) rfl Mr aC c1 (by rw[v1];simp) v2 ?_;let Hr:View:={V9 with role:=.fork c Wg []};have afO:Conc (E9.frame E9.fr) Hr (Hs++(de x deep c++[])):=by
  refine wB.xI (V':=Hr) _ rfl (λ_ _ _ _ _ _ h=>h) (λg hg=> ?_) (λg hg=> ?_) (λhm=>by rw[ul.main,uk.main,vJ.main,LB]at hm;cases hm) wB.fr
  ·cases hg;exact⟨by show V9.own Wg≠none;rw[v1];simp,v2,v3⟩
  ·cases hg;exact⟨by show V9.own c≠none;rw[c1];simp,c2,c3⟩
 have dr9:ap E9 (.rp x.l) (.pointer (some ⟨E9.blk Hs.length,0,none⟩)):=by
  have h7:=(Ov.mono uk).mono ul;rw[<- (b7 Hs.length (by omega)).1]at h7;rwa [SX (by simp[bP])]at h7
 have dd9:ap E9 (.rp [iv deep]) (.pointer (some ⟨E9.blk (Hs.length+1),0,none⟩)):=by
  have h8:=Ox.mono ul;rw[<- (b7 (Hs.length+1) (by omega)).2.1]at h8;exact h8
 have Ib:ap E9 (.rp [.val (.chan (some c))]) (.pointer (some ⟨E9.blk (Hs.length+3),0,none⟩)):=by
  rw[<- (b7 (Hs.length+3) (by omega)).2.2]at H2;exact H2
 have J9:jb x deep Hs E c Wg (.pointer (some ⟨E9.blk Hs.length,0,none⟩)) (.pointer (some ⟨E9.blk (Hs.length+1),0,none⟩)) (.pointer (some ⟨E9.blk (Hs.length+3),0,none⟩)) [(6,.val (pW Wg 0)),(5,.op (Hs.length+3) 0),(4,.op (Hs.length+2) 0),(3,.op (Hs.length+1) 0),(2,.op Hs.length 0)] [] E9 Hr a5:=
  ⟨⟨afO,acB,Bt.size⟩,Lx,ul.main.trans (uk.main.trans (vJ.main.trans LB)),afX,HX,rfl,rfl,rfl,dr9,dd9,Ib,λb y hb=>by rw[wJ];exact PC b y hb,aC⟩
 refine alu hx hA hp (by omega) Ke ⟨J9,rfl,by rw[wJ];exact IT,by rw[wJ];exact IU⟩ λjs D E11 V11 a11 G Kl ji dU Qg al9 afW afT aoQ ait=> ?_;subst bT;have fb:=Kn.len dU (H.length+5);let L5:List aa:=[.part 6 x.l 76,.part 1 [iv deep] 3,.cells (D.l (H.length+5)) 88,.part 1 [.val (.chan (some c))] 139,.gone];rw[hlen]at Qg;refine⟨afW,aoO (P:=SC) (rs:=[.cell 4 88]) (H:=H) (L:=L5++[setH D.aK]) (G:=G) (T:=[(4,.op (H.length+2) 0)]) (av:=.agg (D.l (H.length+5))) rfl Qg al9 hc (aoQ.trans iR.symm) (afT.trans tL.symm) ait ?_ rfl ?_ ?_ (hk js D L5 Kl ji dU rfl)⟩
 ·have hg:(H.map strip++(L5++[setH D.aK]++G))[H.length+2]?=some (.cells (D.l (H.length+5)) 88):=by
   have:=a_ (H.map strip) (L5++[setH D.aK]++G) 2;rw[hlen]at this;exact this
  have aF:Un 28 (D.l (H.length+5))=D.l (H.length+5):=SX (by omega);generalize hLG:H.map strip++(L5++[setH D.aK]++G)=LG at hg;try simp only[seval,gG,ur,hg,fb,aF,aa.cellsOf]
 ·have hl:H.length=(H.map strip).length:=hlen.symm;intro y hy;have ajW:(H.map strip++(L5++[setH D.aK])).length=H.length+6:=by simp[L5]
  rw[ajW];rcases SS.1 hy with h|h
  ·exact(Ke y h).mono (by omega)
  ·simp only[L5,SL,SS,S0,or_false]at h;rcases h with(rfl|rfl|rfl|rfl|rfl)|rfl
   ·exactλa ha=>FV x _ a ha
   ·intro a ha;simp at ha;subst ha;exact .val _
   ·exact xq (by omega)
   ·intro a ha;simp at ha;subst ha;exact .val _
   ·trivial
   ·trivial
 ·refine .agg λa ha=> ?_;exact xq (by simp[L5]) a ha
namespace Tk
theorem QN{x:ak}{bc:Nat}(h0:0<=x.first)(h90:x.first<=90)(hp:0<=x.an/\x.an<=3):∀(d:Nat)(pre:List Int),pre.length+d<=4->pre.head?=some x.first->(∀a∈pre,x.first<=a/\a<=x.first+3* (pre.length-1:Nat))->∀h∈ml x bc d pre,h.length=4/\h.head?=some x.first/\∀a∈h,x.first<=a/\a<=x.first+9
 |0,pre,hl,hh,ha,h,hm=>by
  unfold ml at hm;split at hm
  ·rw[S5]at hm;subst hm;have aC:pre≠[]:=λe=>(by rw[e]at hh;cases hh);have cG:0<pre.length:=VL.2 aC;have tQ:pre.getLastD 0∈pre:=by
    rw[Vh,XO aC];exact Zr aC
   refine⟨by simp[cH];omega,by rw[cH,WN,hh];rfl,λa hm=> ?_⟩;have J4:a∈pre:=by
    rcases SS.1 hm with h|h
    ·exact h
    ·rw[(Xy.1 h).2];exact tQ
   have:=ha a J4;omega
  ·cases hm
 |d+1,pre,hl,hh,ha,h,hm=>by
  unfold ml at hm;split at hm
  ·obtain⟨n,hn,hm⟩:=S7.1 hm;have j4:n<x.an.toNat+1:=(by simpa using hn);split at hm
   ·cases hm
   ·have aC:pre≠[]:=λe=>(by rw[e]at hh;cases hh);have cG:0<pre.length:=VL.2 aC;have tQ:pre.getLastD 0∈pre:=by
     rw[Vh,XO aC];exact Zr aC
    refine QN h0 h90 hp d _ (by simp;omega) (by rw[WN,hh];rfl) (λa J4=> ?_) h hm;rw[S9,T7];rcases SS.1 J4 with h'|h'
    ·have:=ha a h';omega
    ·rw[S5]at h';subst h';have:=ha _ tQ;omega
  ·cases hm
theorem QJ{x:ak}{bc:Nat}(hx:x.Ok){h:List Int}(hm:h∈j3 x bc):l7 h:=by
 have hf:=hx.first;have hh:=hx.hours;have hp:=hx.an;obtain⟨h1,h2,h3⟩:=QN (bc:=bc) hf.1 hf.2 ⟨by omega,hp.2⟩ x.hours.toNat [x.first] (by simp;omega) rfl (λa ha=>by rw[S5]at ha;subst ha;simp) h hm;refine⟨h1,λa ha=>by have:=h3 a ha;omega,λa ha=>by have:=h3 a ha;omega,?_⟩
 match h,h1,h2,h3 with
 |[a,b,c,d],_,h2,h3=>
  have ha:a=x.first:=by simpa using h2
  have:=h3 d (by simp);simp;omega
theorem aaO:∀{qs:List Nat}{u:Nat}{t ns:List Nat},ns∈j_ qs u t->∃l,ns=t++l/\l.length=qs.length/\∀(i n q:Nat),l[i]?=some n->qs[i]?=some q->n<9/\q.testBit n=true
 |[],u,t,ns,h=>by
  simp only[j_,S5]at h;exact⟨[],by simp[h],rfl,λi n q h1=>by cases h1⟩
 |q::qs,u,t,ns,h=>by
  simp only[j_,S7]at h;obtain⟨n,hn,h⟩:=h;split at h
  ·cases h
  ·rename_i hc;obtain⟨l,h1,h2,h3⟩:=aaO h;refine⟨n::l,by rw[h1];simp,by simp[h2],λi m q' h4 h5=> ?_⟩
   match i with
   |0=>
    cases h4;cases h5;refine⟨by simpa using hn,?_⟩;simp at hc;exact hc.2
   |i+1=>exact h3 i m q' h4 h5
theorem aaZ{k:Nat}{ns:List Nat}:∀{qs:List Nat}{u:Nat}{t os:List Nat},os∈lW k ns qs u t->∃l,os=t++l/\l.length=qs.length/\∀n∈l,n<k
 |[],u,t,os,h=>by
  simp only[lW,S5]at h;exact⟨[],by simp[h],rfl,λn h1=>by cases h1⟩
 |q::qs,u,t,os,h=>by
  simp only[lW,S7]at h;obtain⟨n,hn,h⟩:=h;split at h
  ·cases h
  ·obtain⟨l,h1,h2,h3⟩:=aaZ h;refine⟨n::l,by rw[h1];simp,by simp[h2],λm hm=> ?_⟩;rcases SL.1 hm with rfl|hm
   ·simpa using hn
   ·exact h3 m hm
theorem MQ:∀{h:List Int}{i:Nat}{n a:Int},h.head?=some a->a<=n->n<h.getLastD 0->0<=fg i h n
 |[],i,n,a,h1,_,_=>by cases h1
 |[b],i,n,a,h1,h2,h3=>by
  simp at h1 h3;omega
 |b::c::l,i,n,a,h1,h2,h3=>by
  have:b=a:=by simpa using h1
  subst this;unfold fg;split
  ·omega
  ·rename_i hc;exact MQ (a:=c) rfl (by omega) (by simpa[Vh]using h3)
theorem aqY{x:ak}{h:List Int}{ns os:List Nat}(hx:x.Ok)(hh:l7 h)(hn:ns∈fJ x h)(ho:os∈gS x h ns):jc x (dp h ns os):=by
 obtain⟨l,e1,e2,e3⟩:=aaO hn;simp only[UD]at e1;subst e1;obtain⟨m,g1,g2,g3⟩:=aaZ ho;simp only[UD]at g1;subst g1;rw[Tn]at e2 g2;have h4:=hh.len;have BZ:=hx.cZ;have oK:=hx.eP;have Ca:(dp h ns os).take 4=h:=by
  unfold dp;rw[SD,TA (by omega),SX (by omega)]
 have dc:(kL 4 ns).length=4:=zH (by omega);have hg:∀p,p<ns.length->(dp h ns os)[4+p]?=(ns[p]?).map λn:Nat=>(n:Int):=λp hp=>by
  unfold dp;rw[SD,Tj (by omega),SZ (by omega),h4,U7];unfold kL;rw[SZ (by simpa using hp),To]
 refine⟨by simp[dp,h4,dc,zH (k:=3) (l:=os) (by omega)],by rw[Ca];exact hh,λp hp=> ?_,λs hs=> ?_⟩
 ·obtain⟨n,BY⟩:=cC (xs:=ns) (i:=p) (by omega);obtain⟨y,hy⟩:=cC hp;obtain⟨q1,q2⟩:=e3 p n (bW h y) BY (by rw[To,hy];rfl);refine⟨n,by rw[hg p (by omega),BY];rfl,q1,?_⟩;rw[Ca];unfold bW at q2;rw[AT]at q2;simp only[Th,kT,decide_eq_true_eq]at q2;obtain⟨a,b,c,d,rfl,_⟩:=hh.out;have e0:(dp [a,b,c,d] ns os).getD 0 0=a:=rfl;rw[e0];have:=q2.2.1.1;simp at this;exact MQ (a:=a) rfl (by omega) (by simp;omega)
 ·obtain⟨o,Kg⟩:=cC (xs:=os) (i:=s) (by omega);refine⟨o,?_,by have:=g3 o (Ti Kg);omega⟩;unfold dp;rw[Tj (by simp[h4,dc]),show (h++kL 4 ns).length=8 by simp[h4,dc],U7];unfold kL;rw[SZ (by have:=eB Kg;simpa using this),To,Kg];rfl
end Tk
theorem CZ{x:ak}(hx:x.Ok):wm x:=λbc _ h hm=>by
 have hh:=QJ hx hm;refine⟨hh,λns iO a ha=> ?_⟩;obtain⟨os,h1,rfl⟩:=Tm.1 ha;exact aqY hx hh iO h1
open Go.Conc
section
variable {lv:Bool}{P:SJ}{s:AS}{ms:List Nat}{bs:List UV}{nt:Nat}
theorem aig{f:TO}{fn:YF}{c0 c1 c2:T9}{rs:List UL}{H:List aa}{args:List AV}{k kp:AV->List aa->Prop}(hf:P.funcs[f]?=some fn)(hb:fn.body=some (.seq c0 (.seq c1 c2)))(hr:fn.results=rs.toArray)(hn:fn.ntmps=nt)(cI:args.length<=nt)
  (h:bM H->(∀a∈args,Lt H.length a)->aU lv P none nt c0 ⟨bk 0 args,H⟩ λe s0=>e=.normal/\Af lv P nt c1 s0 [] (λe s' mN=>e=.normal/\∃c,mN=[c]/\∀bs,jT lv P nt bs c2 s' [] (xZ lv P rs H.length c k kp))):ba lv P f H args k kp:=by
 intro E V vs hc hd;have hlt:∀a∈args,Lt H.length a:=λa ha=>by
  obtain⟨i,hi⟩:=oP ha;rw[<- hc.n];exact(hd.2 i a hi).lt
 have ah:=AP (nt:=nt) hc hd cI;refine afz (by simp) hf hb ?_;rw[hn];refine wp_seq (h hc.ay hlt E V _ _ ah λae e E0 V0 a0 s0 yZ r_ he0 hΦ0=> ?_);obtain⟨rfl,xk⟩:=hΦ0;cases e<;>first
  |exact he0.elim
  |skip
 have ajw:a0.defers=[]:=yZ.defers;refine wp_seq (xk E0 V0 a0 _ r_ (by rw[ajw];trivial) λae e E1 V1 a1 s1 ds1 ajT vd di BF hΦ1=> ?_);obtain⟨rfl,c,rfl,hw⟩:=hΦ1;have g_:=yZ.d.trans ajT;cases e<;>first
  |exact BF.elim
  |skip
 obtain⟨d,iM,bi⟩:∃d,a1.defers=[d]/\xS E1 c d:=by
  match iM:a1.defers,di with
  |[d],di=>exact⟨d,rfl,di.1⟩
  |[],di=>exact di.elim
  |_::_::_,di=>exact di.2.elim
 refine hw [d] E1 V1 a1 _ vd ⟨by simp[iM],by simp⟩ λae e E' V' a' s' cw hk aQ fG he hΦ=> ?_;have hle:E.Le E':=g_.le.trans hk.le;have fin:∀(md:U5)(m:Option AV)(H':List aa),(md matches .run)=false->ii cw s'.H=some H'->Nn E' m md->pZ lv P c H' m (λH'=>ao (gG P ⟨s'.T,H'⟩ rs) λl=>cy H.length H' (iD l) k) (λH'=>∀pv,m=some pv->cy H.length H' pv kp)->s8 lv P fn (gz E V k kp) a'.defers md a'.tmps V':=by
  intro md m H' pz hg Q5 hD;refine acP pz cw _ H' E' V' _ hg aQ.br fG λV2 r1 r2 cN=> ?_;have ajt:=bi.mono hk.le;refine⟨pz,.inr ⟨?_,?_⟩⟩
  ·obtain⟨f,first,cM,fa,ca,vs,h1,rfl,h3,h4,h5⟩:=bi;exact⟨_,_,rfl⟩
  ·refine(hD E' V2 d md cN ajt Q5).mono (λnx aR hx=> ?_) λ_ _ h=>h;obtain⟨g,args,rfl,Bg⟩:=hx;refine⟨g,args,rfl,Bg.mono λnh V3 hx=> ?_⟩;obtain⟨E3,H3,q1,q2,q3,q4,q5|q5⟩:=hx
   ·obtain⟨rfl,q5⟩:=q5;exact abo (s':=⟨s'.T,H3⟩) (a':=a') hr ⟨q4,aQ.tok.mono q1,aQ.size⟩ (hle.trans q1) hc.n (q2.trans (r1.trans (hk.role.trans g_.role))) (q3.trans (r2.trans (hk.deaf.trans g_.deaf))) q5
   ·obtain⟨rfl,tS,q5⟩:=q5;cases m with
    |none=>cases tS
    |some pv=>
     obtain⟨v,rfl,na⟩:=Q5;obtain⟨b,bO,sU,t1,t2,t3,t4⟩:=wD (q5 pv rfl) q4 (na.mono q1) (hle.trans q1) hc.n;exact⟨b,v,bO,sU,rfl,t1,q2.trans (r1.trans (hk.role.trans g_.role)),q3.trans (r2.trans (hk.deaf.trans g_.deaf)),t2,t3,t4⟩
 have ah7:xZ lv P rs H.length c k kp .ret s' cw->s8 lv P fn (gz E V k kp) a'.defers .returning a'.tmps V':=λhΦ=>by
  obtain⟨H',hg,hΦ⟩:=ao.out hΦ;refine fin .returning none H' rfl hg rfl λE2 V2 d2 LD c1 c2 c3=> ?_;refine(hΦ E2 V2 d2 LD c1 c2 c3).mono (λnx aR hx=> ?_) λ_ _ h=>h;obtain⟨g,args,rfl,Bg⟩:=hx;refine⟨g,args,rfl,Bg.mono λnh V3 hx=> ?_⟩;obtain⟨E3,H3,q1,q2,q3,q4,q5|q5⟩:=hx
  ·exact⟨E3,H3,q1,q2,q3,q4,.inl q5⟩
  ·exact q5.2.2.elim
 cases ae<;>cases e<;>first
  |exact he.elim
  |exact ah7 hΦ
  |exact hΦ.elim
  |skip
 rename_i pv ch;obtain⟨v,eJ,aju⟩:∃v,ch=[{v,recovered:=false}]/\ap E' pv v:=he;subst eJ;obtain⟨H',hg,hΦ⟩:=ao.out hΦ;refine fin _ (some pv) H' rfl hg ⟨v,rfl,aju⟩ λE2 V2 d2 LD c1 c2 c3=> ?_;refine(hΦ E2 V2 d2 LD c1 c2 c3).mono (λnx aR hx=> ?_) λ_ _ h=>h;obtain⟨g,args,rfl,Bg⟩:=hx;refine⟨g,args,rfl,Bg.mono λnh V3 hx=> ?_⟩;obtain⟨E3,H3,q1,q2,q3,q4,q5|q5⟩:=hx
 ·exact⟨E3,H3,q1,q2,q3,q4,.inl q5⟩
 ·exact⟨E3,H3,q1,q2,q3,q4,.inr ⟨q5.1,q5.2.1,λpv' e=>by cases e;exact q5.2.2⟩⟩
end
open Go.Proofs Go.Gg.Tk
namespace Tk
def uW (x:ak):Bool:=(SV (x.an.toNat+1)).any λbc=>(j3 x bc).any λh=> !(iX x 0 h).isEmpty
end Tk
def up:AV:=.cS 136 (.agg [])
section
variable {lv:Bool}{H:List aa}{kr kp:List aa->Prop}
theorem ahT{r:Nat}(h:∀L,kr (H++L)):pZ lv SC (.fn (.func 95) [] [.op r 0],[]) H none kr kp:=by
 refine Ot (nt:=9) (by kernel_rfl) F.f95 rfl rfl rfl rfl rfl rfl rfl rfl (by kernel_rfl) (by simp) ?_;simp only[bk,SW,UD,Vm];(try simp only[seval,F.K6]);refine dV (a:=[]) rfl ⟨rfl,by decide,by simp,?_⟩;refine ai ?_;refine aE ?_;refine aeS ?_;exact .inl (h _)
theorem ahU{r:Nat}{a:AV}(hr:H[r]?=some (.cells [a] 4))(h:∀L,kr (H.set r (.cells [bv true] 4)++L)):pZ lv SC (.fn (.func 95) [] [.op r 0],[]) H (some up) kr kp:=by
 refine Ot (nt:=9) (by kernel_rfl) F.f95 rfl rfl rfl rfl rfl rfl rfl rfl (by kernel_rfl) (by simp) ?_;simp only[bk,SW,UD,S8,up];(try simp only[seval,F.K6]);have tY:=eB hr;have tV:∀L:List aa,(H++L)[r]?=some (.cells [a] 4):=λL=>fA hr;refine ai ?_;refine aE ?_;refine aj ?_;simp only[seval,tV,uw tY];exact .inl (h _)
end
def qk (x:ak)(m:Lp)(h:List Int):dt Lp:=if(iX x 0 h).isEmpty then .go .ready else .bad .busy
theorem Ob{x:ak}:∀(l:List (List Int)),bz (qk x) l .ready=if l.any (λh=> !(iX x 0 h).isEmpty)=true then .bad .busy else .go .ready
 |[]=>by simp[bz]
 |h::l=>by
  have ih:=Ob (x:=x) l;by_cases he:(iX x 0 h).isEmpty=true
  ·have e1:qk x .ready h=.go .ready:=(by unfold qk;rw[if_pos he]);rw[bz,e1];dsimp only;rw[ih];simp only[YU,he,ak_,XU]
  ·have e1:qk x .ready h=.bad .busy:=(by unfold qk;rw[if_neg he]);rw[bz,e1];dsimp only;have e2:(iX x 0 h).isEmpty=false:=(by simpa using he);simp only[YU,e2,YG,ag2,if_true]
theorem ae6(l:List (List Int)):bz (λ(_:Lp) (_:List Int)=>(.bad .busy:dt Lp)) l .ready=if l.isEmpty then .go .ready else .bad .busy:=by
 cases l<;>rfl
def AZ (x:ak)(i:Nat):List aa:=[.cells x.l 76,.cells [iv i] 3,.obj (.deferred (some [])),.gone]
def jW (x:ak)(H:List aa):Nat->List aa
 |0=>H++[.cells x.l 76,.cells [bv false] 4]
 |i+1=>jW x H i++AZ x i
def wz (H:List aa):Nat->List Nat
 |0=>[]
 |i+1=>(H.length+2+4* i+2)::wz H i
theorem HR(x:ak)(H:List aa):∀i,(jW x H i).length=H.length+2+4* i
 |0=>by simp[jW]
 |i+1=>by simp[jW,AZ,HR x H i];omega
theorem Oa(x:ak)(H:List aa):∀i,∃Y,jW x H i=H++[.cells x.l 76,.cells [bv false] 4]++Y
 |0=>⟨[],by simp[jW]⟩
 |i+1=>by
  obtain⟨Y,h⟩:=Oa x H i;exact⟨Y++AZ x i,by rw[jW,h,SD]⟩
theorem HQ(x:ak)(H:List aa):∀(i:Nat)(L:List aa),∃Y,ii (wz H i) (jW x H i++L)=some (H++[.cells x.l 76,.cells [bv false] 4]++Y)
 |0,L=>⟨L,by rw[wz,yD,jW]⟩
 |i+1,L=>by
  have hl:=HR x H i;have e:(jW x H (i+1)++L)=jW x H i++(AZ x i++L):=by rw[jW,SD]
  have hg:(jW x H i++(AZ x i++L))[H.length+2+4* i+2]?=some (.obj (.deferred (some []))):=by rw[<- hl,a_];rfl
  obtain⟨Y,hY⟩:=HQ x H i ([.cells x.l 76,.cells [iv i] 3,.gone,.gone]++L);refine⟨Y,?_⟩;rw[wz,e,yC hg,<- hl,dX];exact hY
theorem N_(x:ak)(H:List aa)(i:Nat)(L:List aa):(jW x H i++L)[H.length]?=some (.cells x.l 76)/\(jW x H i++L)[H.length+1]?=some (.cells [bv false] 4):=by
 obtain⟨Y,h⟩:=Oa x H i;rw[h,SD,SD];exact⟨a_ H _ 0,a_ H _ 1⟩
section
variable {lv:Bool}
theorem aim{P:SJ}(rs:List UL)(n:Nat)(c:AV×List AV)(k kp:AV->List aa->Prop)(pv:AV)(s:AS)(ms:List Nat):xZ lv P rs n c k kp (.panic pv) s ms=ao (ii ms s.H) λH'=>pZ lv P c H' (some pv) (λH'=>ao (gG P ⟨s.T,H'⟩ rs) λl=>cy n H' (iD l) k) (λH'=>cy n H' pv kp):=by rw[xZ]
theorem ain{P:SJ}(rs:List UL)(n:Nat)(c:AV×List AV)(k kp:AV->List aa->Prop)(s:AS)(ms:List Nat):xZ lv P rs n c k kp .ret s ms=ao (ii ms s.H) λH'=>pZ lv P c H' none (λH'=>ao (gG P ⟨s.T,H'⟩ rs) λl=>cy n H' (iD l) k) (λ_=>False):=by rw[xZ]
theorem ahH{H:List aa}{k kp:AV->List aa->Prop}{x:ak}(hx:x.Ok)(hk:k (bv (uW x)) H):ba lv SC 71 H [x.av] k kp:=by
 refine aig (rs:=[.cell 2 4]) (nt:=24) F.f71 rfl rfl rfl (by simp) λhH hA=> ?_;simp only[bk,SW,ak.av];have I1:=CZ hx;have hp:=hx.an;obtain⟨p,gO⟩:∃p:Nat,x.an=p:=⟨x.an.toNat,by omega⟩;have bP:x.l=[iv x.first,iv x.hours,iv x.an,dS x.seen,aZ x.pieces,aZ x.aB]:=rfl;have bh:∀(L:List aa),(H++L)[H.length]?=L[0]?:=λL=>a_ H L 0;have hw:SF.wrap (x.an+1)=((p+1:Nat):Int):=by rw[gO,bC _ (by omega)];rfl
 refine aj ?_;simp only[seval,F.Nt];refine NV (n:=1) rfl rfl rfl rfl rfl rfl (by kernel_rfl) ?_;(try simp only[seval,T_,UA,Ug,TP]);refine⟨⟨_,_,_,rfl⟩,_,rfl,λbs=> ?_⟩;refine DL ?_;refine rN ?_;refine aj ?_;simp only[seval,bh,bP,hw];refine ww ?_;refine NW (measure λi=>p+1-i).wf (λi:Nat=>⟨[(10,iv i),(9,iv ((p+1:Nat):Int)),(2,.op (H.length+1) 0),(1,.op H.length 0)],jW x H i⟩) (λi=>wz H i) (λi=>i<=p+1/\∀j,j<i->∀h∈j3 x j,(iX x 0 h).isEmpty=true) 0 (fx (by simp only[seval];simp[bN,Wk.refl]) rfl) rfl ⟨by omega,λj hj=>by omega⟩ λi ay=> ?_;obtain⟨nP,fH⟩:=ay;have cJ:=HR x H i;have nK:=λL=>(N_ x H i L).1;have wT:=λL=>(N_ x H i L).2;obtain⟨N,hN⟩:∃N,N=H.length+2+4* i:=⟨_,rfl⟩;rw[<- hN]at cJ;have Ql:(jW x H i)[H.length]?=some (.cells x.l 76):=by have:=nK [];rwa [SY]at this
 refine rN ?_;refine ai ?_;refine rN ?_;refine aE ?_;refine⟨λh=> ?_,λh=> ?_⟩
 ·
  have pq:i<=3:=by omega
  refine aN ?_;refine DL ?_;refine ww ?_;refine rN ?_;refine ai ?_;refine rN ?_;refine aj ?_;simp only[seval,Ql,bP];refine aM ((IA (x:=x) (n:=i) ?_));rw[cJ];(try simp only[seval]);refine ww ?_;refine HK (by rfl) λl fn T ag bo hT wR pn=> ?_;have mX:(jW x H i++[aa.cells x.l 76,aa.cells [iv i] 3]).length=N+2:=by rw[S9,cJ];rfl
  (try simp only[seval]);rw[cJ];obtain⟨B,hB⟩:∃B,B=jW x H i:=⟨_,rfl⟩;rw[<- hB]at cJ Ql nK wT⊢;have bg:∀(L:List aa)(j:Nat),(B++L)[N+j]?=L[j]?:=λL j=>by rw[<- cJ,a_]
  have DO:∀(L:List aa)(j:Nat)(y:aa),(B++L).set (N+j) y=B++L.set j y:=λL j y=>by rw[<- cJ,dX]
  have Qs:∀(M:List aa)(lp:Lp),bM (B++([aa.cells x.l 76,.cells [iv i] 3,.obj (.deferred (some [])),.loop l .ready none fn T 24 #[16] ag bo (N+2)]++M))->bM (B++([aa.cells x.l 76,.cells [iv i] 3,.obj (.deferred (some [])),.loop l lp.st lp.pe fn T 24 #[16] ag bo (N+2)]++M)):=λM lp gM z hz=>by
   have hlen:(B++([aa.cells x.l 76,.cells [iv i] 3,.obj (.deferred (some [])),.loop l lp.st lp.pe fn T 24 #[16] ag bo (N+2)]++M)).length=(B++([aa.cells x.l 76,.cells [iv i] 3,.obj (.deferred (some [])),.loop l .ready none fn T 24 #[16] ag bo (N+2)]++M)).length:=(by simp);have hl:=gM (.loop l .ready none fn T 24 #[16] ag bo (N+2)) (by simp);rw[hlen];rcases SS.1 hz with h'|h'
   ·exact gM z (Te _ h')
   ·rcases SS.1 h' with h'|h'
    ·simp only[SL,S0,or_false]at h';rcases h' with rfl|rfl|rfl|rfl
     ·exact gM _ (by simp)
     ·exact gM _ (by simp)
     ·exact gM _ (by simp)
     ·exact hl
    ·exact gM z (S4 _ (S4 _ h'))
  have hY:jr lv SC (.fn (.yield l) [] []) (qk x) (λlp:Lp=>B++[.cells x.l 76,.cells [iv i] 3,.obj (.deferred (some [])),.loop l lp.st lp.pe fn T 24 #[16] ag bo (N+2)]) (N+4) (λlp=>lp=.ready) (λh=>l7 h/\∀ns∈fJ x h,∀a∈(gS x h ns).map (dp h ns),jc x a) up:=by
   refine⟨λlp h M k kp gD ha dw=> ?_,λlp h Cv gD ha he=> ?_,λlp=>by simp[cJ],λm lp Cv hz z eO=> ?_,rfl,rfl,rfl⟩
   ·replace gD:lp=.ready:=gD;subst gD;obtain⟨oC,Cb⟩:=ha;have h4:=oC.len;have mQ:(h.map iv).length=4:=(by rw[Tn,h4]);obtain⟨Lo,kA⟩:∃Lo,Lo=aa.loop l .busy none fn T 24 #[16] ag bo (N+2):=⟨_,rfl⟩;obtain⟨P1,dh⟩:∃P1:List aa,P1=B++([.cells x.l 76,.cells [iv i] 3,.obj (.deferred (some [])),Lo]++M):=⟨_,rfl⟩;have d_:P1.length=N+4+M.length:=(by rw[dh];simp[cJ];omega);have pg3:∀(L:List aa),(P1++L)[N+3]?=some Lo:=λL=>(by rw[dh,SD,bg];rfl);have px:∀(L:List aa),(P1++L)[H.length]?=some (.cells x.l 76):=λL=>(by rw[dh,SD];exact nK _);have pb:∀(L:List aa)(j:Nat),(P1++L)[N+4+M.length+j]?=L[j]?:=λL j=>(by rw[<- d_,a_]);have vS:∀(L:List aa),(P1++L)[N+4+M.length]?=L[0]?:=λL=>pb L 0;have oU:∀(L:List aa)(y:aa),(P1++L).set (N+4+M.length+4) y=P1++L.set 4 y:=λL y=>(by rw[<- d_,dX]);have s3:∀(L:List aa) y,(P1++L).set (N+3) y=B++([.cells x.l 76,.cells [iv i] 3,.obj (.deferred (some [])),y]++M)++L:=λL y=>by
     rw[dh,SD,DO];simp
    subst hT wR pn;rw[SD];refine uV (id:=N+3) (by rw[bg];rfl) rfl (by kernel_rfl) λnF I2=> ?_;simp only[rz];have vq:Ur 4 [iv 0,iv 0,iv 0,iv 0]=[]:=rfl;refine aj ?_;simp only[seval,h4,vq];unfold sZ;refine⟨none,fn,_,24,#[16],_,_,_,by rw[bg];rfl,?_⟩;dsimp only;rw[DO];simp only[UB,TZ];rw[<- kA];have wN:B.length+(M.length+1+1+1+1)=N+4+M.length:=(by rw[cJ];omega);rw[wN];have w5:∀z:aa,(B++aa.cells x.l 76::aa.cells [AV.val (SG SF ↑i)] 3::aa.obj (atm (some []))::Lo::(M++[z]))=P1++[z]:=λz=>(by rw[dh];simp[iv]);rw[w5];refine aj ?_;simp only[seval,px,bP,vS,h4,mQ];rw[SX (i:=4) (l:=h.map iv) (by rw[mQ];exact SQ _)];refine aM ((IB (x:=x) (h:=h) (deep:=0) ?_));(try simp only[seval]);refine cF ?_;refine DJ (N+3) (by rfl) (by show (P1++_)[N+3]?=_;rw[pg3,kA]) λl2 eA T2 gf gg nH wS wU=> ?_;simp only[seval];rw[d_];have wQ:jr lv SC (.fn (.yield l2) [] []) (λ(_:Lp) (_:List Int)=>(.bad .busy:dt Lp)) (λlp:Lp=>P1++[.cells (h.map iv) 83,.cells x.l 76,.cells (h.map iv) 83,.cells [iv 0] 3,.loop l2 lp.st lp.pe eA T2 24 #[20] gf gg (N+2)]) (N+4+M.length+5) (λlp=>lp=.ready) (λa=>a.length=11) up:=by
     refine⟨λlp t M2 k2 xr gD ht kF=> ?_,λlp t Cv gD ht he=>(by cases he),λlp=>by simp[d_],λq lp Cv hz z eO=> ?_,rfl,rfl,rfl⟩
     ·replace gD:lp=.ready:=gD;subst gD;simp only[cP]at kF;have ly:∀(L:List aa),(P1++L)[N+4+M.length+4]?=L[4]?:=λL=>pb L 4;subst nH wS wU;rw[SD];refine uV (id:=N+4+M.length+4) (by rw[ly];rfl) rfl (by kernel_rfl) λqw I3=> ?_;simp only[rz];refine aN ?_;unfold sZ;refine⟨none,eA,_,24,#[20],_,_,_,by rw[ly];rfl,?_⟩;dsimp only;rw[oU];simp only[UB,TZ];refine aj ?_;simp only[seval,F.K6];show cy _ (P1++_) _ xr;rw[SD]at kF;exact bS kF
     ·rcases SS.1 eO with h'|h'
      ·exact hz z (Te _ h')
      ·have hl:=hz _ (S4 _ (Ti (i:=4) rfl));simp only[SL,S0,or_false]at h';rcases h' with rfl|rfl|rfl|rfl|rfl
       ·exact hz _ (S4 _ (by simp))
       ·exact hz _ (S4 _ (by simp))
       ·exact hz _ (S4 _ (by simp))
       ·exact hz _ (S4 _ (by simp))
       ·exact hl
    rw[d_]at nH;have ER:∀n,Lt n up:=λn=>(by simp[up,aai,sG]);refine dC (IF (x:=x) (h:=h) (deep:=0) (ir:=N+4+M.length+1) (ih:=N+4+M.length+1+1) (id:=N+4+M.length+1+2) (σ:=Lp.ready) hx oC wQ (λlp L=> ?_) (λlp L=> ?_) (λlp L=> ?_) ER rfl (λa ha=>ha) (λns iO a ha=>(Cb ns iO a ha).len) ?_)
    ·rw[SD];exact pb _ 1
    ·rw[SD];exact pb _ 2
    ·rw[SD];exact pb _ 3
    rw[ae6];have ly:∀(L:List aa),(P1++L)[N+4+M.length+4]?=L[4]?:=λL=>pb L 4;by_cases sg:(iX x 0 h).isEmpty=true
    ·rw[if_pos sg];have e1:qk x .ready h=.go .ready:=(by unfold qk;rw[if_pos sg]);rw[e1]at dw;simp only[cP]at dw;simp only[fL,SY];refine⟨.ready,none,_,_,_,_,_,_,_,by rw[ly];rfl,by decide,?_⟩;rw[oU,Gk];(try simp only[seval]);show og _ _ _ _ _ _ _;refine⟨l,.busy,none,fn,_,24,#[16],_,_,N+2,by show (P1++_)[_]?=_;rw[pg3,kA],?_⟩;show cy (N+4+M.length) ((P1++_).set _ _) _ k;rw[s3];rw[SD]at dw;exact jy (G:=[.cells (h.map iv) 83,.cells x.l 76,.cells (h.map iv) 83,.cells [iv 0] 3,.gone]) (Wk.refl _) (by simp[iv];exact⟨rfl,rfl⟩) (by simp[cJ];omega) (Qs M .ready nF) (.val _) dw
    ·rw[if_neg sg];have e1:qk x .ready h=.bad .busy:=(by unfold qk;rw[if_neg sg]);rw[e1]at dw;simp only[cP]at dw;simp only[fL,SY];show cy (N+4+M.length) (P1++_) up kp;rw[SD]at dw;refine jy (H':=B++([aa.cells x.l 76,.cells [iv i] 3,.obj (.deferred (some [])),.loop l Lp.busy.st Lp.busy.pe fn _ 24 #[16] _ _ (N+2)]++M)) (Wk.refl _) (by rw[dh,kA];rfl) (by simp[cJ];omega) (Qs M .busy nF) (ER _) dw
   ·replace gD:lp=.ready:=gD;subst gD;unfold qk at he;split at he
    ·cases he;rfl
    ·cases he
   ·rcases SS.1 eO with h'|h'
    ·exact hz z (Te _ h')
    ·have hl:=hz _ (S4 _ (Ti (i:=3) rfl));simp only[SL,S0,or_false]at h';rcases h' with rfl|rfl|rfl|rfl
     ·exact hz _ (S4 _ (by simp))
     ·exact hz _ (S4 _ (by simp))
     ·exact hz _ (S4 _ (by simp))
     ·exact hl
  have ER:∀n,Lt n up:=λn=>by simp[up,aai,sG]
  refine dC (ID (x:=x) (bc:=i) (ir:=N) (it:=N+1) (σ:=Lp.ready) hx hY (λlp L=> ?_) (λlp L=> ?_) pq ER rfl (λa ha=>I1 i pq a ha) ?_)
  ·rw[SD];exact bg _ 0
  ·rw[SD];exact bg _ 1
  rw[Ob];have bQ:SF.wrap ((i:Int)+1)=((i+1:Nat):Int):=by rw[bC _ (by omega)];rfl
  by_cases Es:(j3 x i).any (λh=> !(iX x 0 h).isEmpty)=true
  ·rw[if_pos Es];have Jm:uW x=true:=by
    unfold uW;rw[UK];exact⟨i,by rw[TE];omega,Es⟩
   rw[Jm]at hk;simp only[fL,SY];(try simp only[seval,aim]);obtain⟨Y,vb⟩:=HQ x H i [.cells x.l 76,.cells [iv i] 3,.gone,.loop l .busy none fn T 24 #[16] ag bo (N+2)];rw[<- hB]at vb;have hgo:ii ((N+2)::wz H i) (B++[.cells x.l 76,.cells [iv i] 3,.obj (.deferred (some [])),.loop l Lp.busy.st Lp.busy.pe fn T 24 #[16] ag bo (N+2)])=some (H++[.cells x.l 76,.cells [bv false] 4]++Y):=by
    rw[yC (by rw[bg];rfl),DO];exact vb
   refine dV hgo ?_;have da:(H++[aa.cells x.l 76,.cells [bv false] 4]++Y)[H.length+1]?=some (.cells [bv false] 4):=(by rw[SD];exact a_ H _ 1);refine ahU da λL=> ?_;have cN:((H++[aa.cells x.l 76,.cells [bv false] 4]++Y).set (H.length+1) (.cells [bv true] 4)++L)[H.length+1]?=some (.cells [bv true] 4):=by
    rw[SD,dX,SD];exact a_ H _ 1
   (try simp only[seval,gG,ur,cN,aa.cellsOf]);exact kS hH hk
  ·rw[if_neg Es];simp only[fL,SY];refine⟨.ready,none,_,_,_,_,_,_,_,by show (B++_)[N+3]?=_;rw[bg];rfl,by decide,?_⟩;rw[show N+2+1=N+3 from rfl,DO,Gj];(try simp only[seval]);refine DK ?_;refine aj ?_;simp only[seval,bQ];refine⟨i+1,?_,⟨by omega,λj hj g hm=> ?_⟩,fx (by push_cast;simp only[seval];simp[bN,Wk.refl]) (by rw[hB];rfl),by rw[wz,hN]⟩
   ·show p+1-(i+1)<p+1-i;omega
   ·by_cases ce:j<i
    ·exact fH j ce g hm
    ·have:j=i:=(by omega);subst this;apply Tu;intro aC;exact Es (UK.2 ⟨g,hm,by simpa using aC⟩)
 ·
  have dl:i=p+1:=by omega
  subst dl;have Jm:uW x=false:=by
   unfold uW;rw[Bool.eq_false_iff];intro hc;obtain⟨j,h1,h2⟩:=UK.1 hc;obtain⟨h,h3,h4⟩:=UK.1 h2;rw[TE]at h1;have:=fH j (by omega) h h3;rw[this]at h4;cases h4
  rw[Jm]at hk;have Qh:(jW x H (p+1))[H.length+1]?=some (.cells [bv false] 4):=by have:=wT [];rwa [SY]at this
  refine b9 ?_;refine rN ?_;refine aj ?_;simp only[seval,Qh];rw[pQ Qh];refine DK ?_;refine oq ?_;rw[ain];obtain⟨Y,vb⟩:=HQ x H (p+1) [];rw[SY]at vb;refine dV vb ?_;refine ahT λL=> ?_;have cN:(H++[aa.cells x.l 76,.cells [bv false] 4]++Y++L)[H.length+1]?=some (.cells [bv false] 4):=by
   rw[SD,SD];exact a_ H _ 1
  (try simp only[seval,gG,ur,cN,aa.cellsOf]);exact kS hH hk
end
open Go.Conc Go.Proofs Go.Gg.Tk
section
variable {lv:Bool}{H:List aa}{k kp:AV->List aa->Prop}
theorem rU{n lo hi:Int}(hk:k (bv (decide (n<lo)||decide (n>hi))) H):ba lv SC 59 H [iv n,iv lo,iv hi] k kp:=by
 refine bE (rs:=[.tmp 6]) (nt:=15) Tryz.f59 λhH hA=> ?_;simp only[bk,SW];refine ai ?_;by_cases h:n<lo
 ·have h1:decide (n<lo)=true:=by simpa using h
  refine aj ?_;simp only[seval,h1];refine aX ?_;rw[h1,ag2]at hk;exact bS hk
 ·have h1:decide (n<lo)=false:=by simpa using h
  refine aj ?_;simp only[seval,h1];refine aX ?_;rw[h1,XU]at hk;exact bS hk
theorem It{b:i_}{hi e at':Int}(hb:uC b hi)(hk:k (.val .nilIface) H):ba lv SC 104 H [b.av,iv hi,iv e,iv at'] k kp:=by
 refine bE (rs:=[.tmp 8]) (nt:=33) Tryz.f104 λhH hA=> ?_;simp only[bk,SW,i_.av];have h1:(decide (b.min<0)||decide (b.min>hi))=false:=by have:=hb.min;have:=hb.le;have:=hb.max;simp;omega
 have h2:(decide (b.max<0)||decide (b.max>hi))=false:=by have:=hb.min;have:=hb.le;have:=hb.max;simp;omega
 have h3:decide (b.min>b.max)=false:=by have:=hb.le;simp;omega
 refine ai ?_;refine aj ?_;simp only[seval,i_.l];refine aM ((rU ?_));(try simp only[seval,h1]);refine aM ((rU ?_));(try simp only[seval,h2]);refine aE ?_;refine aj ?_;simp only[seval,h3];refine aE ?_;refine aN ?_;refine ai ?_;refine aX ?_;exact kS hH hk
theorem ahy(hk:k (bv true) H):ba lv SC 52 H [] k kp:=by
 refine bE (rs:=[.tmp 0]) (nt:=1) Tryz.f52 λhH hA=> ?_;simp only[bk,SW];refine ai ?_;refine ai ?_;refine aX ?_;exact bS hk
theorem ag0{t:AV}(hk:k (bv false) H):ba lv SC 105 H [.val .nilIface,t] k kp:=by
 refine bE (rs:=[.tmp 4]) (nt:=42) Tryz.f105 λhH hA=> ?_;simp only[bk,SW];refine ai ?_;refine aj ?_;simp only[seval,F.Cl];refine aE ?_;refine ai ?_;refine aX ?_;exact bS hk
theorem ahO(hk:k (iv 0) H):ba lv SC 84 H [.val .nilIface] k kp:=by
 refine bE (rs:=[.tmp 2]) (nt:=9) Tryz.f84 λhH hA=> ?_;simp only[bk,SW];refine ai ?_;refine ai ?_;refine aj ?_;simp only[seval,F.ak4];refine aM ((ag0 ?_));(try simp only[seval]);refine aE ?_;refine aN ?_;refine ai ?_;refine aX ?_;exact kS hH hk
theorem ahN{x:ak}{y:Seen}{at':Int}(hh:0<=y.hour/\y.hour<=x.hours)(hb:uC y.next 99)(hk:k (.val .nilIface) H):ba lv SC 83 H [x.av,y.av,iv at'] k kp:=by
 refine bE (rs:=[.tmp 6]) (nt:=19) Tryz.f83 λhH hA=> ?_;simp only[bk,SW,ak.av,Seen.av];have bP:x.l=[iv x.first,iv x.hours,iv x.an,dS x.seen,aZ x.pieces,aZ x.aB]:=rfl;have h1:(decide (y.hour<0)||decide (y.hour>x.hours))=false:=by simp;omega
 refine aj ?_;simp only[seval,bP,Seen.l];refine ai ?_;refine aM ((rU ?_));(try simp only[seval,h1]);refine aE ?_;refine aN ?_;refine ai ?_;refine aM ((It (b:=y.next) hb ?_));(try simp only[seval]);refine aX ?_;exact kS hH hk
theorem Pb{x:ak}{l:List aG}(hx:x.Ok)(hl:∀y∈l,Hj x y)(pu:l.length<=4)(hk:k (.val .nilIface) H):ba lv SC 85 H [x.av,aZ l] k kp:=by
 refine bE (rs:=[.tmp 4]) (nt:=34) Tryz.f85 λhH hA=> ?_;simp only[bk,SW,ak.av];have bP:x.l=[iv x.first,iv x.hours,iv x.an,dS x.seen,aZ x.pieces,aZ x.aB]:=rfl;have bh:∀(L:List aa),(H++L)[H.length]?=L[0]?:=λL=>a_ H L 0;have JM:=hx.hours;have xk:SF.wrap (x.hours-1)=x.hours-1:=bC _ (by omega);refine aj ?_;simp only[seval,bP];refine aj ?_;simp only[seval,aZ];refine cF ?_;refine rM l.length (λi:Nat=>[(11,iv i)]) (λ_=>_) (λi=>True) trivial (λbT cW i b_ _ R hR=> ?_);refine ai ?_;refine aE ?_;refine⟨λh=> ?_,λh=> ?_⟩
 ·have bt:i<l.length:=by omega
  obtain⟨y,hy⟩:=cC bt;have Ch:=hl y (Ti hy);have bQ:SF.wrap ((i:Int)+1)=((i+1:Nat):Int):=by rw[bC _ (by omega)];rfl
  refine aN ?_;refine aj ?_;simp only[seval,Gz hy,je bt];refine ai ?_;refine aM ((It (b:=y.number) Ch.number ?_));(try simp only[seval]);refine aj ?_;simp only[seval,F.Cl];refine aE ?_;refine aN ?_;refine aj ?_;simp only[seval,bh,xk];refine aM ((It (b:=y.hour) Ch.hour ?_));(try simp only[seval]);refine aj ?_;simp only[seval,F.Cl];refine aE ?_;refine aN ?_;refine aj ?_;simp only[seval,bQ];exact hR _ ⟨bt,trivial,zL (pI rfl rfl) (by simp only[seval];simp[bN,Wk.refl]) bT (by simp[eE])⟩
 ·refine b9 ?_;refine ai ?_;refine aX ?_;exact kS hH hk
theorem Iz{x:ak}(hx:x.Ok)(hk:k (iv 0) H):ba lv SC 62 H [x.av] k kp:=by
 refine bE (rs:=[.tmp 2]) (nt:=62) Tryz.f62 λhH hA=> ?_;simp only[bk,SW,ak.av];have bP:x.l=[iv x.first,iv x.hours,iv x.an,dS x.seen,aZ x.pieces,aZ x.aB]:=rfl;have bh:∀(L:List aa),(H++L)[H.length]?=L[0]?:=λL=>a_ H L 0;have h1:(decide (x.first<0)||decide (x.first>90))=false:=by have:=hx.first;simp;omega
 have h2:(decide (x.hours<1)||decide (x.hours>3))=false:=by have:=hx.hours;simp;omega
 have h3:(decide (x.an<1)||decide (x.an>3))=false:=by have:=hx.an;simp;omega
 have g3:decide ((3:Int)<x.seen.length)=false:=by have:=hx.zS;simp;omega
 have g4:decide ((4:Int)<x.pieces.length)=false:=by have:=hx.cZ;simp;omega
 have g5:decide ((3:Int)<x.aB.length)=false:=by have:=hx.eP;simp;omega
 refine aj ?_;simp only[seval,bP];refine aj ?_;simp only[seval,bh];refine aM ((rU ?_));(try simp only[seval,h1,bh]);refine aM ((rU ?_));(try simp only[seval,h2,bh]);refine aM ((rU ?_));(try simp only[seval,h3]);refine aE ?_;refine aN ?_;refine aj ?_;simp only[seval,bh,dS,g3];refine aE ?_;refine aN ?_;refine aj ?_;simp only[seval,bh,dS];refine cF ?_;refine rM x.seen.length (λi:Nat=>[(27,iv i)]) (λ_=>_) (λi=>True) trivial (λbT cW i b_ _ R hR=> ?_);refine ai ?_;refine aE ?_;refine⟨λh=> ?_,λh=> ?_⟩
 ·have bt:i<x.seen.length:=by omega
  obtain⟨y,hy⟩:=cC bt;have Ch:=hx.seen y (Ti hy);have bQ:SF.wrap ((i:Int)+1)=((i+1:Nat):Int):=by have:=hx.zS;rw[bC _ (by omega)];rfl
  refine aN ?_;refine aj ?_;simp only[seval,abV hy,je bt];refine aj ?_;simp only[seval,bh];refine aM ((ahN (x:=x) (y:=y) Ch.1 Ch.2 ?_));(try simp only[seval]);refine aj ?_;simp only[seval,F.Cl];refine aE ?_;refine aN ?_;refine aj ?_;simp only[seval,bQ];exact hR _ ⟨bt,trivial,zL (pI rfl rfl) (by simp only[seval];simp[bN,Wk.refl]) bT (by simp[eE])⟩
 ·refine b9 ?_;refine aj ?_;simp only[seval,bh,aZ,g4];refine aE ?_;refine aN ?_;refine aj ?_;simp only[seval,bh];refine aM ((Pb (x:=x) (l:=x.pieces) hx hx.piece hx.cZ ?_));(try simp only[seval]);refine aj ?_;simp only[seval,F.Cl];refine aE ?_;refine aN ?_;refine aj ?_;simp only[seval,bh,g5];refine aE ?_;refine aN ?_;refine aj ?_;simp only[seval,bh];refine aM ((Pb (x:=x) (l:=x.aB) hx hx.stub (by have:=hx.eP;omega) ?_));(try simp only[seval]);refine aM ((ahO ?_));(try simp only[seval]);refine aX ?_;exact kS hH hk
end
def Nj (lv:Bool)(H:List aa)(f:AV)(b:Bool):Prop:=∀(L:List aa)(k kp:AV->List aa->Prop),k (bv b) (H++L)->iG lv SC f (H++L) [] k kp
def pV:List AV:=[iv 0,iv 0,iv 0,.sl 0 [] .exact,.sl 0 [] .exact,.sl 0 [] .exact]
def eS (D:Kn):Int:=if D.has then 0 else 11
theorem yu{x:ak}{deep:Int}{p:Nat}{H:List aa}{k kp:AV->List aa->Prop}{f:AV}{b:Bool}(hx:x.Ok)(hp:x.an=p)(hm:H[0]?=some .main)(hf:Nj true H f b)(g_:b=false->k (.aJ [.agg pV,.agg iZ,iv 3]) H)(cz:b=true->∀js D L mp,js.Perm (SV (p+1))->nv x deep js D->bH D->H.length<=mp->(H++L)[mp]?=some (setH D.aK)->k (.aJ [x.av,.agg (D.l mp),iv (eS D)]) (H++L)):ba true SC 51 H [x.av,iv deep,f] k kp:=by
 refine bE (rs:=[.cell 6 76,.cell 7 88,.tmp 8]) (nt:=36) Tryz.f51 λhH hA=> ?_;simp only[bk,SW,ak.av];have bP:x.l=[iv x.first,iv x.hours,iv x.an,dS x.seen,aZ x.pieces,aZ x.aB]:=rfl;have bh:∀(L:List aa),(H++L)[H.length]?=L[0]?:=λL=>a_ H L 0;have di:∀(L:List aa),(H++L)[H.length+1]?=L[1]?:=λL=>a_ H L 1;have kC:∀(L:List aa),(H++L)[H.length+2]?=L[2]?:=λL=>a_ H L 2;refine ai ?_;refine aj ?_;simp only[seval,bh,bP];refine aM ((Iz (x:=x) hx ?_));(try simp only[seval]);refine ai ?_;refine aE ?_;refine aN ?_;refine ai ?_;refine wy (hf _ _ _ ?_);(try simp only[seval]);refine aE ?_;refine⟨λhb=> ?_,λhb=> ?_⟩
 ·have du:b=false:=by simpa using hb
  have:=g_ du;refine ai ?_;refine oq ?_;simp only[seval,di,kC];exact jx hH (Wk.refl _) (by simp[jm,sG,eE,pV,iZ,Lz]) this
 ·have du:b=true:=by simpa using hb
  refine aN ?_;refine aj ?_;simp only[seval,bh];refine⟨⟨rfl,rfl,rfl⟩,?_⟩;have yR:∀(L:List aa),(H++L)[H.length+3]?=L[3]?:=λL=>a_ H L 3;refine aj ?_;simp only[seval,yR];refine aM ((ahK (x:=x) hx (CZ hx) hp (fA hm) λjs D L5 gZ ji dU hl5=> ?_));have fb:=λmp=>Kn.len dU mp;have lL:=ui D;obtain⟨z0,z1,z2,z3,z4,rfl⟩:∃z0 z1 z2 z3 z4,L5=[z0,z1,z2,z3,z4]:=by
   match L5,hl5 with
   |[a,b,c,d,e],_=>exact⟨a,b,c,d,e,rfl⟩
  (try simp only[seval,fb]);refine⟨lL _,?_⟩;have fS:∀(L:List aa)(j:Nat),(H++L)[H.length+j]?=L[j]?:=λL j=>a_ H L j;have zi:∀(L:List aa)(j:Nat)(y:aa),(H++L).set (H.length+j) y=H++L.set j y:=λL j y=>dX H L j y;have ajr:∀(L:List aa),(H++L)[H.length+10]?=L[10]?:=λL=>a_ H L 10;obtain⟨mp,so⟩:∃mp,mp=H.length+4+5:=⟨_,rfl⟩;rw[<- so];refine aj ?_;simp only[seval,ajr,Kn.Ba];obtain⟨kG,eM⟩:∃kG:List AV->List AV->List aa,∀u v,kG u v=H++[.cells x.l 26,.cells u 76,.cells v 88,.cells x.l 76,z0,z1,z2,z3,z4,setH D.aK,.cells (D.l mp) 88]:=⟨_,λ_ _=>rfl⟩;have p1:∀u v,(kG u v)[H.length+1]?=some (.cells u 76):=λu v=>by rw[eM,fS];rfl
  have p2:∀u v,(kG u v)[H.length+2]?=some (.cells v 88):=λu v=>by rw[eM,fS];rfl
  have p3:∀u v,(kG u v)[H.length+3]?=some (.cells x.l 76):=λu v=>by rw[eM,fS];rfl
  have p10:∀u v,(kG u v)[H.length+10]?=some (.cells (D.l mp) 88):=λu v=>by rw[eM,fS];rfl
  have s1:∀u v w,(kG u v).set (H.length+1) (.cells w 76)=kG w v:=λu v w=>by rw[eM,zi,eM];rfl
  have s2:∀u v w,(kG u v).set (H.length+2) (.cells w 88)=kG u w:=λu v w=>by rw[eM,zi,eM];rfl
  have dT:∀(e:Int),e=eS D->k (.aJ [x.av,.agg (D.l mp),iv e]) (kG x.l (D.l mp)):=λe he=>by
   rw[he,eM];refine cz du js D _ mp gZ ji dU (by omega) ?_;rw[so,show H.length+4+5=H.length+9 from rfl,fS];rfl
  have e0:=eM pV iZ;simp only[pV,iZ,bP,iv,bv,wv,TM,VA,UD,push_cast,Int.cast_ofNat_Int]at e0;rw[<- e0];clear e0;have dA:x.l.length=6:=rfl;have nT:iZ.length=28:=rfl;have RZ:pV.length=6:=rfl;have hO:Un 6 x.l=x.l:=rfl;have Fl:Un 28 (D.l mp)=D.l mp:=SX (by rw[fb];exact SQ _);have vp:∀l:List AV,l.length=28->D.l mp++Ur (D.l mp).length l=D.l mp:=λl hl=>by rw[fb,TU (by omega),SY]
  have RV:∀a∈x.l,a.leaf=true:=λa ha=>by
   simp only[ak.l,SL,S0,or_false]at ha;rcases ha with rfl|rfl|rfl|rfl|rfl|rfl<;>rfl
  refine aE ?_;refine⟨λhh=> ?_,λhh=> ?_⟩
  ·have I5:D.has=false:=(by simpa using hh);have:=dT 11 (by rw[eS,I5];rfl);refine qi [2,3] [0,1,2,3,4] (λD'=>bif isDone 3 D' then kG x.l (D.l mp)else bif isDone 2 D' then kG x.l iZ else kG pV iZ) ?_;simp only[seval,p1,p2,p3,p10,s1,s2,fb,dA,nT,RZ,lL];rw[hO,Fl];refine⟨rfl,SQ _,RV,rfl,fb _,by rw[fb];exact SQ _,lL _,by rw[vp _ rfl];rfl,?_⟩;refine oq ?_;simp only[seval,p1,p2,fb];rw[Fl];refine dV (a:=[x.av,.agg (D.l mp),iv 11]) rfl ?_;exact bS this
  ·have I5:D.has=true:=(by simpa using hh);have:=dT 0 (by rw[eS,I5];rfl);refine aN ?_;refine qi [2,3] [0,1,2,3,4] (λD'=>bif isDone 3 D' then kG x.l (D.l mp)else bif isDone 2 D' then kG x.l iZ else kG pV iZ) ?_;simp only[seval,p1,p2,p3,p10,s1,s2,fb,dA,nT,RZ,lL];rw[hO,Fl];refine⟨rfl,SQ _,RV,rfl,fb _,by rw[fb];exact SQ _,lL _,by rw[vp _ rfl];rfl,?_⟩;refine oq ?_;simp only[seval,p1,p2,fb];rw[Fl];refine dV (a:=[x.av,.agg (D.l mp),iv 0]) rfl ?_;exact bS this
namespace Tk
def fq (s:Nat)(more:Int)(i:Nat):List Int:=((SV i).filter s.testBit).map λn:Nat=>(n:Int)+more
theorem aac(s:Nat)(more:Int)(i:Nat):fq s more (i+1)=if s.testBit i then fq s more i++[(i:Int)+more]else fq s more i:=by
 unfold fq;rw[Vk,List.filter_append,TF];by_cases h:s.testBit i=true
 ·simp[h]
 ·simp[h]
theorem Lw(s:Nat)(more:Int)(i:Nat):(fq s more i).length<=i:=by
 unfold fq;rw[Tn];exact UF (List.length_filter_le _ _) (by simp)
end Tk
theorem z1:gr (SG .i64 0) 1=[iv 0]:=rfl
section
variable {lv:Bool}{H:List aa}{k kp:AV->List aa->Prop}
theorem Ix{s:Nat}{more:Int}(hs:s<65536)(hm:0<=more/\more<=1000)(hk:k (bp (fq s more 16)) H):ba lv SC 56 H [wv s,iv more] k kp:=by
 refine bE (rs:=[.tmp 4]) (nt:=21) Tryz.f56 λhH hA=> ?_;simp only[bk,SW];refine ai ?_;refine ai ?_
 (repeat apply gX);refine uP (t:=5) (sz:=1) (el:=3) (by simp only[seval]<;>rfl) ?_
 refine ai ?_;refine cF ?_;refine gA 16 (λi:Nat=>[(5,.sl (fq s more i).length ((fq s more i).map iv) (.opn H.length)),(7,iv i)]) (λi=>H++[.tail (fq s more i).length 1 3]) (λ_=>True) (λ_ _=>rfl) (by simp only[seval];simp[bN,Wk.refl];exact Wk.refl _) rfl (λ_ _ _=>by simp) trivial (λbT cW i b_ hi R hR=> ?_);refine ai ?_;refine aE ?_;refine⟨λh=> ?_,λh=> ?_⟩
 ·have hl:i<16:=by omega
  have fD:SF.wrap ((i:Int)+1)=((i+1:Nat):Int):=by rw[bC _ (by omega)];rfl
  have tO:SF.wrap ((i:Int)+more)=(i:Int)+more:=bC _ (by omega);have iN:=Lw s more i;refine aN ?_;refine ai ?_;refine ai ?_;refine aM ((wH hs ?_));(try simp only[seval]);refine aE ?_;refine⟨λhb=> ?_,λhb=> ?_⟩
  ·refine aj ?_;simp only[seval,z1,tO]
   first|refine⟨by decide,by omega,?_⟩|refine⟨by omega,?_⟩
   refine aj ?_;simp only[seval,fD];have cU:fq s more (i+1)=fq s more i++[(i:Int)+more]:=(by rw[aac,if_pos hb]);refine hR _ ⟨hl,trivial,?_⟩;rw[cU,TF,S9];exact dn
  ·refine aN ?_;refine aj ?_;simp only[seval,fD];have cU:fq s more (i+1)=fq s more i:=(by rw[aac,if_neg (by simpa using hb)]);refine hR _ ⟨hl,trivial,?_⟩;rw[cU];exact dn
 ·refine b9 ?_;have:i=16:=by omega
  subst this;refine ai ?_;refine aX ?_;rw[bp]at hk;exact jx hH (iY _ _ _) (by simp[un,eE]) hk
theorem ahM{x:ak}{n:Int}{ir:Nat}(hx:x.Ok)(hr:H[ir]?=some (.cells x.l 26))(hk:k (bv (decide (n<0)||decide (n>(x.pieces.length:Int)-1))) H):ba lv SC 82 H [iv n,.op ir 0] k kp:=by
 refine bE (rs:=[.tmp 3]) (nt:=10) Tryz.f82 λhH hA=> ?_;simp only[bk,SW];have bP:x.l=[iv x.first,iv x.hours,iv x.an,dS x.seen,aZ x.pieces,aZ x.aB]:=rfl;have m9:=hx.cZ;have hw:SF.wrap ((x.pieces.length:Int)-1)=(x.pieces.length:Int)-1:=bC _ (by omega);refine ai ?_;refine aj ?_;simp only[seval,hr,bP,aZ,hw];refine aM ((rU ?_));(try simp only[seval]);refine aX ?_;exact bS hk
theorem agZ{ns:List Int}{f:AV}{e:End}(iO:ns.length<=4)(g:Int->Bool)(hf:∀n∈ns,∀(k kp:AV->List aa->Prop),k (bv (g n)) H->iG lv SC f H [iv n] k kp)(hk:k (iv (match ns.findIdx? g with|some i=>(i:Int)|none=> -1)) H):ba lv SC 103 H [.sl ns.length (ns.map iv) e,f] k kp:=by
 refine bE (rs:=[.tmp 4]) (nt:=19) Tryz.f103 λhH hA=> ?_;simp only[bk,SW];refine ai ?_;refine ai ?_;refine cF ?_;refine rM ns.length (λi:Nat=>[(8,iv i)]) (λ_=>_) (λi=>∀n∈ns.take i,g n=false) (by simp) (λbT cW i b_ hi R hR=> ?_);refine ai ?_;refine aE ?_;refine⟨λh=> ?_,λh=> ?_⟩
 ·have bt:i<ns.length:=by omega
  obtain⟨n,hn⟩:=cC bt;have fD:SF.wrap ((i:Int)+1)=((i+1:Nat):Int):=by rw[bC _ (by omega)];rfl
  refine aN ?_;refine ai ?_;refine aj ?_;simp only[seval,fZ hn,je bt];refine wy (hf n (Ti hn) _ _ ?_);(try simp only[seval]);refine aE ?_;refine⟨λhg=> ?_,λhg=> ?_⟩
  ·refine ai ?_;refine aX ?_;have:ns.findIdx? g=some i:=by
    rw[Xv];refine⟨bt,?_,λj hj=> ?_⟩
    ·rw[SP bt]at hn;cases hn;exact hg
    ·have:=hi ns[j] (by rw[List.mem_take_iff_getElem];exact⟨j,by omega,rfl⟩);simp[this]
   rw[this]at hk;exact bS hk
  ·refine aN ?_;refine aj ?_;simp only[seval,fD];refine hR _ ⟨bt,λm hm=> ?_,dn⟩;rw[VG,hn]at hm;rcases SS.1 hm with h'|h'
   ·exact hi m h'
   ·simp at h';rw[h'];simpa using hg
 ·have:i=ns.length:=by omega
  subst this;rw[TH]at hi;refine b9 ?_;refine ai ?_;refine aX ?_;have:ns.findIdx? g=none:=by rw[Yg];exactλn hn=>hi n hn
  rw[this]at hk;exact bS hk
theorem ahL{ns:List Int}{f:AV}{e:End}(iO:ns.length<=4)(g:Int->Bool)(hf:∀n∈ns,∀(k kp:AV->List aa->Prop),k (bv (g n)) H->iG lv SC f H [iv n] k kp)(hk:k (bv (ns.any g)) H):ba lv SC 81 H [.sl ns.length (ns.map iv) e,f] k kp:=by
 refine bE (rs:=[.tmp 4]) (nt:=9) Tryz.f81 λhH hA=> ?_;simp only[bk,SW];refine ai ?_;refine ai ?_;refine aM ((agZ iO g hf ?_));(try simp only[seval]);refine aX ?_;refine bS ?_;have:decide ((match ns.findIdx? g with|some i=>(i:Int)|none=> -1)>=0)=ns.any g:=by
  cases h:ns.findIdx? g with
  |none=>
   rw[Yg]at h;have:ns.any g=false:=by
    rw[List.any_eq_false];exactλn hn=>by simp[h n hn]
   rw[this];rfl
  |some i=>
   rw[Xv]at h;obtain⟨h1,h2,_⟩:=h;have:ns.any g=true:=UK.2 ⟨ns[i],VQ h1,h2⟩;rw[this];simp
 rw[this];exact hk
def xG (x:ak)(ns:List Int):Bool:= !(ns.any λn=>decide (n<0)||decide (n>(x.pieces.length:Int)-1))
theorem IC{x:ak}{ns:List Int}{e:End}{il ir:Nat}(hx:x.Ok)(iO:ns.length<=4)(hl:H[il]?=some (.cells [.sl ns.length (ns.map iv) e] 22))(hr:H[ir]?=some (.cells x.l 26))(hk:k (bv (xG x ns)) H):ba lv SC 80 H [.op il 0,.op ir 0] k kp:=by
 refine bE (rs:=[.tmp 2]) (nt:=7) Tryz.f80 λhH hA=> ?_;simp only[bk,SW];refine ai ?_;refine aj ?_;simp only[seval,hl,T_,UA,Ug,TP];refine aM ((ahL (ns:=ns) iO (λn=>decide (n<0)||decide (n>(x.pieces.length:Int)-1)) (λn hn k kp hk=> ?_) ?_))
 ·exact dC (ahM hx hr hk)
 (try simp only[seval]);refine aX ?_;exact bS hk
theorem Iy{x:ak}{ns:List Int}{e:End}(hk:k (.fn (.func 80) [] [.op (H.length+1) 0,.op H.length 0]) (H++[.cells x.l 26,.cells [.sl ns.length (ns.map iv) e] 22])):ba lv SC 58 H [x.av,.sl ns.length (ns.map iv) e] k kp:=by
 refine bE (rs:=[.tmp 4]) (nt:=6) Tryz.f58 λhH hA=> ?_;simp only[bk,SW,ak.av];refine ai ?_;refine aj ?_;simp only[seval,T_,UA,Ug,TP];refine aX ?_;exact bS hk
end
open Go.Conc Go.Proofs Go.Gg.Tk
structure bm where
 aA:List Int
 g:Int
 s:Int
def z9 (τ:bm):aa:=.cells [bp τ.aA,.val (.int .i64 τ.g),.val (.int .u64 τ.s)] 73
def G6 (a b:Int):Int:=TB.wrap (Uf TB.bits a^^^Uf TB.bits b).toNat
def acV (g:Int):Int:=TB.wrap (TB.wrap (TB.wrap g* 15074714826142052245)+11400714819323198485)
def M3 (τ:bm):Int:=match τ.aA[τ.g.toNat]?with
 |some x=>G6 (acV τ.g) (TB.wrap (TB.wrap x* 12620523164723586485))
 |none=>acV τ.g
def amz (s w:Int):Int:=TB.wrap (TB.wrap (s+w)* 13787848793156543929)
def amA (s:Int):Int:=G6 s (s.fdiv (2^min 31 TB.bits))
def Gc (s:Int):Int:=(G6 s (s.fdiv (2^min 27 TB.bits))).fdiv (2^min 9 TB.bits)
def tick (τ:bm):bm:=⟨τ.aA,τ.g+1,amA (amz τ.s (M3 τ))⟩
def vQ (τ:bm):Int:=Gc (TB.wrap ((tick τ).s* 10723151780598845931))
theorem acO(n:Int)(h0:0<=n)(h:n<2^64):TB.wrap n=n:=by
 have h1:TB.bits=64:=rfl;have h2:TB.signed=false:=rfl;unfold Xc;rw[h1,h2];simp;omega
theorem aq6(n:Int):0<=TB.wrap n/\TB.wrap n<2^64:=by
 have h1:TB.bits=64:=rfl;have h2:TB.signed=false:=rfl;unfold Xc;rw[h1,h2];simp;omega
theorem aaW(s:Int):0<=Gc s/\Gc s<2^55:=by
 unfold Gc G6;have h:=aq6 (Uf TB.bits s^^^Uf TB.bits (s.fdiv (2^min 27 TB.bits))).toNat;have e:(2:Int)^min 9 TB.bits=512:=by decide
 rw[e,Int.fdiv_eq_ediv_of_nonneg _ (show (0:Int)<=512 by decide)];omega
def dx (τ:bm)(n:Int):Int:=if n<1 then 0 else(vQ τ).tmod (n+1)
theorem mz(τ:bm)(n:Int):0<=dx τ n/\(dx τ n<=n\/dx τ n=0):=by
 unfold dx;split
 ·omega
 ·have h:=(aaW (TB.wrap ((tick τ).s* 10723151780598845931))).1;have h1:=Int.tmod_nonneg (n+1) h;have h2:=Int.tmod_lt_of_pos (vQ τ) (show 0<n+1 by omega);unfold vQ at h2⊢;omega
def C5 (τ:bm)(lo hi:Int):Int:=lo+dx τ (hi-lo)
theorem arl(τ:bm){lo hi:Int}(h:lo<=hi):lo<=C5 τ lo hi/\C5 τ lo hi<=hi:=by
 have:=mz τ (hi-lo);unfold C5;omega
def aoD (τ:bm)(n:Int):Bool:=dx τ (n-1)==0
structure dQ (Gf:bm->List aa)(t N:Nat):Prop where
 len:∀τ,(Gf τ).length=N
 get:∀τ,(Gf τ)[t]?=some (z9 τ)
 set:∀τ τ',(Gf τ).set t (z9 τ')=Gf τ'
 ok:∀m τ τ',(∀z∈Gf τ,eR m z)->∀z∈Gf τ',eR m z
theorem dQ.more{Gf:bm->List aa}{t N:Nat}(h:dQ Gf t N)(L:List aa):dQ (λτ=>Gf τ++L) t (N+L.length)where
 len:=λτ=>by simp[h.len]
 get:=λτ=>fA (h.get τ)
 set:=λτ τ'=>by show (Gf τ++L).set t _=_;rw[Wy _ _ (eB (h.get τ)),h.set]
 ok:=λm τ τ' hk z hz=>(SS.1 hz).elim (λhz=>h.ok m τ τ' (λv hv=>hk v (Te _ hv)) z hz) (λhz=>hk z (S4 _ hz))
theorem dQ.ay{Gf:bm->List aa}{t N:Nat}(h:dQ Gf t N){τ:bm}(hH:bM (Gf τ))(τ':bm):bM (Gf τ'):=λz hz=>by
 have:=h.ok N τ τ' (λw hw=>by have:=hH w hw;rwa [h.len]at this) z hz;rwa [h.len]
section
variable {Gf:bm->List aa}{t N:Nat}(h:dQ Gf t N)
include h
theorem dQ.g0(τ:bm)(L:List aa):(Gf τ++L)[N]?=L[0]?:=by have:=uK (Gf τ) L 0;rwa [h.len]at this
theorem dQ.g1(τ:bm)(L:List aa):(Gf τ++L)[N+1]?=L[1]?:=by have:=uK (Gf τ) L 1;rwa [h.len]at this
theorem dQ.g2(τ:bm)(L:List aa):(Gf τ++L)[N+1+1]?=L[2]?:=by have:=uK (Gf τ) L 2;rwa [h.len]at this
theorem dQ.g3(τ:bm)(L:List aa):(Gf τ++L)[N+1+1+1]?=L[3]?:=by have:=uK (Gf τ) L 3;rwa [h.len]at this
theorem dQ.h2(τ:bm)(L:List aa):(Gf τ++L)[N+2]?=L[2]?:=h.g2 τ L
theorem dQ.h3(τ:bm)(L:List aa):(Gf τ++L)[N+3]?=L[3]?:=h.g3 τ L
theorem dQ.s0(τ:bm)(L:List aa)(x:aa):(Gf τ++L).set N x=Gf τ++L.set 0 x:=by have:=uL (Gf τ) L 0 x;rwa [h.len]at this
theorem dQ.s1(τ:bm)(L:List aa)(x:aa):(Gf τ++L).set (N+1) x=Gf τ++L.set 1 x:=by have:=uL (Gf τ) L 1 x;rwa [h.len]at this
theorem dQ.s2(τ:bm)(L:List aa)(x:aa):(Gf τ++L).set (N+1+1) x=Gf τ++L.set 2 x:=by have:=uL (Gf τ) L 2 x;rwa [h.len]at this
theorem dQ.s3(τ:bm)(L:List aa)(x:aa):(Gf τ++L).set (N+1+1+1) x=Gf τ++L.set 3 x:=by have:=uL (Gf τ) L 3 x;rwa [h.len]at this
theorem dQ.t2(τ:bm)(L:List aa)(x:aa):(Gf τ++L).set (N+2) x=Gf τ++L.set 2 x:=h.s2 τ L x
theorem dQ.t3(τ:bm)(L:List aa)(x:aa):(Gf τ++L).set (N+3) x=Gf τ++L.set 3 x:=h.s3 τ L x
end
theorem am6(m:Nat)(τ:bm):eR m (z9 τ):=by
 intro a ha;simp only[SL,S0,or_false]at ha;rcases ha with rfl|rfl|rfl
 ·rw[zv];trivial
 ·exact .val _
 ·exact .val _
theorem aqQ(H:List aa):dQ (λτ=>H++[z9 τ]) H.length (H.length+1)where
 len:=λτ=>by simp
 get:=λτ=>by simp
 set:=λτ τ'=>by simp
 ok:=λm τ τ' hk z hz=>by
  rcases SS.1 hz with hz|hz
  ·exact hk z (Te _ hz)
  ·rw[S5.1 hz];exact am6 _ _
structure bm.Ok (τ:bm)(b:Int):Prop where
 g0:0<=τ.g
 g:τ.g<=b
 len:τ.aA.length<=2^50
section
variable {lv:Bool}{H:List aa}{k kp:AV->List aa->Prop}{Gf:bm->List aa}{t N:Nat}{τ:bm}{b:Int}
theorem ahe{aA:List Int}(hk:k (.op H.length 0) (H++[z9 ⟨aA,0,7640891576956012809⟩])):ba lv SC 16 H [bp aA] k kp:=by
 refine bE (rs:=[.tmp 2]) (nt:=6) Tryz.f16 λhH hA=> ?_;simp only[bk,SW];refine ai ?_;refine ai ?_;refine aX ?_;exact bS hk
theorem bm.Ok.tick(h:τ.Ok b):(tick τ).Ok (b+1):=⟨by have:=h.g0;show 0<=τ.g+1;omega,by have:=h.g;show τ.g+1<=b+1;omega,h.len⟩
theorem bm.Ok.mono{b':Int}(h:τ.Ok b)(hb:b<=b'):τ.Ok b':=⟨h.g0,by have:=h.g;omega,h.len⟩
theorem ahB(hT:dQ Gf t N)(hτ:τ.Ok b)(hb:b<2^60)(hk:k (.val (.int .u64 (vQ τ))) (Gf (tick τ))):ba lv SC 55 (Gf τ) [.op t 0] k kp:=by
 obtain⟨aA,g,s⟩:=τ;obtain⟨nN,hgb,QY⟩:=hτ;simp only at nN hgb QY;refine bE (rs:=[.tmp 2]) (nt:=76) Tryz.f55 λhH hA=> ?_;simp only[bk,SW];have hg:∀τ,(Gf τ)[t]?=some (.cells [.sl τ.aA.length (τ.aA.map iv) .shut,.val (.int .i64 τ.g),.val (.int .u64 τ.s)] 73):=hT.get;have hs:∀τ (CD:List Int) g' s',(Gf τ).set t (.cells [.sl CD.length (CD.map iv) .shut,.val (.int .i64 g'),.val (.int .u64 s')] 73)=Gf ⟨CD,g',s'⟩:=λτ CD g' s'=>hT.set τ ⟨CD,g',s'⟩;obtain⟨n,rfl⟩:∃n:Nat,g=n:=⟨g.toNat,by omega⟩;have hw:SF.wrap ((n:Int)+1)=n+1:=bC _ (by omega);refine ai ?_;refine aj ?_;simp only[seval,hg];refine eo 9 ?_;simp only[seval,hg];refine aE ?_;refine⟨λh=> ?_,λh=> ?_⟩
 ·have jB:n<aA.length:=by simpa using h
  obtain⟨x,hx⟩:=cC jB;refine eo 13 ?_;simp only[seval,hg,fZ hx,je jB,AJ];refine aj ?_;simp only[seval,hg,hw,hs];refine aj ?_;simp only[seval,hg,hs];refine eo 11 ?_;simp only[seval,hg,hs,AI,AJ];refine aj ?_;simp only[seval,hg];refine aj ?_;simp only[seval,AI,AJ];refine aX ?_;refine bS ?_;unfold vQ tick M3 at hk;simp only[Vw,hx]at hk;exact hk
 ·have jB:¬n<aA.length:=by simpa using h
  have hx:aA[n]?=none:=by rw[Uu];omega
  refine aN ?_;refine aj ?_;simp only[seval,hg,hw,hs];refine aj ?_;simp only[seval,hg,hs];refine eo 11 ?_;simp only[seval,hg,hs,AI,AJ];refine aj ?_;simp only[seval,hg];refine aj ?_;simp only[seval,AI,AJ];refine aX ?_;refine bS ?_;unfold vQ tick M3 at hk;simp only[Vw,hx]at hk;exact hk
theorem rT{n:Int}(hT:dQ Gf t N)(hτ:τ.Ok b)(hb:b<2^60)(hn:n<2^60)(hk:k (iv (dx τ n)) (Gf (tick τ))):ba lv SC 25 (Gf τ) [.op t 0,iv n] k kp:=by
 refine bE (rs:=[.tmp 4]) (nt:=16) Tryz.f25 λhH hA=> ?_;simp only[bk,SW];refine ai ?_;refine ai ?_;refine aM ((ahB hT hτ hb ?_));(try simp only[seval]);refine ai ?_;refine aE ?_;refine⟨λh=> ?_,λh=> ?_⟩
 ·have h:n<1:=by simpa using h
  refine ai ?_;refine aX ?_;rw[dx,if_pos h]at hk;exact bS hk
 ·have h:¬n<1:=by simpa using h
  have ho:=aaW (TB.wrap ((tick τ).s* 10723151780598845931));have bQ:TB.wrap n=n:=acO n (by omega) (by omega);have gP:TB.wrap (n+1)=n+1:=acO _ (by omega) (by omega);have nS:n+1≠0:=by omega
  have hr:=mz τ n;rw[dx,if_neg h]at hk hr;have t_:SF.wrap ((vQ τ).tmod (n+1))=(vQ τ).tmod (n+1):=bC _ (by omega);refine aN ?_;refine aj ?_;simp only[seval,adY,bQ,gP,t_,nS];refine aX ?_;exact bS hk
theorem ahk{lo hi:Int}(hT:dQ Gf t N)(hτ:τ.Ok b)(hb:b<2^60)(oE:0<=lo/\lo<2^20)(EI: -1<=hi/\hi<2^20)(hk:k (iv (C5 τ lo hi)) (Gf (tick τ))):ba lv SC 23 (Gf τ) [.op t 0,iv lo,iv hi] k kp:=by
 refine bE (rs:=[.tmp 6]) (nt:=14) Tryz.f23 λhH hA=> ?_;simp only[bk,SW];have bQ:SF.wrap (hi-lo)=hi-lo:=bC _ (by omega);have hr:=mz τ (hi-lo);have gP:SF.wrap (lo+dx τ (hi-lo))=lo+dx τ (hi-lo):=bC _ (by omega);refine ai ?_;refine aj ?_;simp only[seval,bQ];refine aM ((rT hT hτ hb (by omega) ?_));(try simp only[seval,gP]);refine aX ?_;exact bS hk
theorem O8{n:Int}(hT:dQ Gf t N)(hτ:τ.Ok b)(hb:b<2^60)(hn:0<=n/\n<2^20)(hk:k (bv (aoD τ n)) (Gf (tick τ))):ba lv SC 46 (Gf τ) [.op t 0,iv n] k kp:=by
 refine bE (rs:=[.tmp 4]) (nt:=10) Tryz.f46 λhH hA=> ?_;simp only[bk,SW];have bQ:SF.wrap (n-1)=n-1:=bC _ (by omega);refine ai ?_;refine aj ?_;simp only[seval,bQ];refine aM ((rT hT hτ hb (by omega) ?_));(try simp only[seval]);refine aX ?_;exact bS hk
end
theorem uo{α:Type}{xs:List α}{i:Nat}{x:α}(h:xs[i]?=some x):x∈xs:=Ti h
def uO (xs:List Int)(n:Int):Int:=if n∈xs then(xs.idxOf n:Int)else -1
theorem R3{n:Int}:∀{xs:List Int}{i:Nat},xs[i]?=some n->n∉xs.take i->xs.idxOf n=i
 |[],i,h,_=>by cases h
 |x::xs,0,h,_=>by cases h;simp
 |x::xs,i+1,h,hn=>by
  rw[VU,SL,not_or]at hn;have e:(x==n)=false:=beq_eq_false_iff_ne.2 λe=>hn.1 e.symm;rw[List.idxOf_cons,e,cond_false,R3 (by simpa using h) hn.2]
theorem aeF{xs:List Int}{n:Int}{i:Nat}(h:xs[i]?=some n)(hn:n∉xs.take i):uO xs n=i:=by
 rw[uO,if_pos (uo h),R3 h hn]
theorem HE(xs:List Int)(n:Int):(0<=uO xs n<->n∈xs)/\(∀i:Nat,uO xs n=i->xs[i]?=some n)/\ -1<=uO xs n:=by
 unfold uO;split
 ·rename_i h;refine⟨⟨λ_=>h,λ_=>by omega⟩,λi hi=> ?_,by omega⟩;obtain rfl:xs.idxOf n=i:=by omega
  have hlt:=List.idxOf_lt_length_of_mem h;rw[SP hlt,List.getElem_idxOf hlt]
 ·rename_i h;exact⟨⟨λe=>by omega,λe=>absurd e h⟩,λi hi=>by omega,by omega⟩
section
variable {lv:Bool}{H:List aa}{k kp:AV->List aa->Prop}
theorem aho{xs:List Int}{n:Int}{e:End}(hl:xs.length<2^30)(hk:k (iv (uO xs n)) H):ba lv SC 27 H [.sl xs.length (xs.map iv) e,iv n] k kp:=by
 refine bE (rs:=[.tmp 4]) (nt:=19) Tryz.f27 λhH hA=> ?_;simp only[bk,SW];refine ai ?_;refine ai ?_;refine cF ?_;refine rM xs.length (λi:Nat=>[(5,iv i)]) (λ_=>_) (λi=>n∉xs.take i) (by simp) (λbT cW i b_ hi R hR=> ?_);clear bT cW;refine ai ?_;refine aE ?_;refine⟨λh=> ?_,λh=> ?_⟩
 ·have bt:i<xs.length:=by omega
  obtain⟨y,hy⟩:=cC bt;have bQ:SF.wrap ((i:Int)+1)=i+1:=bC _ (by omega);refine aN ?_;refine aj ?_;simp only[seval,fZ hy,je bt];refine aE ?_;refine⟨λh2=> ?_,λh2=> ?_⟩
  ·have h2:y=n:=(by simpa using h2);subst h2;refine ai ?_;refine aX ?_;rw[aeF hy hi]at hk;exact bS hk
  ·have h2:¬y=n:=(by simpa using h2);refine aN ?_;refine aj ?_;simp only[seval,bQ];refine hR _ ⟨bt,λhm=> ?_,dn⟩;obtain⟨hj,hle⟩:=SN.1 hy;rw[Wb hj,hle]at hm;rcases SS.1 hm with hm|hm
   ·exact hi hm
   ·exact h2 (S5.1 hm).symm
 ·have iw:i=xs.length:=by omega
  subst iw;rw[TH]at hi;refine b9 ?_;refine ai ?_;refine aX ?_;rw[uO,if_neg hi]at hk;exact bS hk
theorem ahn{xs:List Int}{n:Int}{e:End}(hl:xs.length<2^30)(hk:∀v:Int,(0<=v<->n∈xs)->(∀i:Nat,v=i->xs[i]?=some n)-> -1<=v->k (iv v) H):ba lv SC 27 H [.sl xs.length (xs.map iv) e,iv n] k kp:=aho hl (hk _ (HE xs n).1 (HE xs n).2.1 (HE xs n).2.2)
inductive rJ:List AV->List AV->Prop
 |nil:rJ [] []
 |cons {a b:AV} {l m:List AV} (h:Wk a b) (t:rJ l m):rJ (a::l) (b::m)
theorem rJ.len{l m:List AV}(h:rJ l m):l.length=m.length:=by
 induction h with
 |nil=>rfl
 |cons _ _ ih=>simp[ih]
theorem rJ.at{l m:List AV}(h:rJ l m):∀(i:Nat)(a b:AV),m[i]?=some a->l[i]?=some b->Wk b a:=by
 induction h with
 |nil=>intro i a b h;simp at h
 |cons h _ ih=>
  intro i a b h1 h2
  match i with
  |0=>cases h1;cases h2;exact h
  |i+1=>exact ih i a b h1 h2
theorem M0{l l':List AV}(h:rJ l l'):Wk (.agg l) (.agg l'):=λE v hd=>by
 cases hd with
 |agg hs h1=>
  refine .agg (by rw[hs,h.len]) λi x hx=> ?_;obtain⟨y,hy⟩:=cC (xs:=l) (i:=i) (by rw[h.len];exact eB hx);exact h.at i x y hx hy E _ (h1 i y hy)
theorem M1{n:Nat}{l l':List AV}{e:End}(hl:l.length=l'.length)(h:∀(i:Nat) a b,l'[i]?=some a->l[i]?=some b->Wk b a):Wk (.sl n l e) (.sl n l' e):=λE v hd=>by
 cases hd with
 |sl b o cap f hc he h1 h2=>
  refine .sl b o cap f hc he (λi hi=>h1 i (by omega)) λi x hx=> ?_;obtain⟨y,hy⟩:=cC (xs:=l) (i:=i) (by have:=eB hx;omega);exact h i x y hx hy E _ (h2 i y hy)
 |nil he=>
  have:l'=[]:=List.eq_nil_of_length_eq_zero hl.symm;subst this;exact .nil he
theorem LW:(1<=2^24)=True:=by simp
theorem Rg{H L:List aa}(h:bM H)(hL:∀z∈L,∀n,eR n z):bM (H++L):=λz hz=>by
 rcases SS.1 hz with h'|h'
 ·exact(h z h').mono (by simp)
 ·exact hL z h' _
theorem Ms{base Vi Vn T:List (Nat×AV)}{H H':List aa}(G:List aa)(hk:rE T (Vi++base) Vn)(hv:∀p∈Vn,∃b,look T p.1=some b/\Wk b p.2)(ay:bM H)(hlt:∀p∈Vn,Lt H.length p.2)(hG:H'=H++G):s7 base Vi Vn H ⟨T,H'⟩:=⟨hk,hv,G,hG,.inr ⟨ay,hlt⟩⟩
theorem aqB{xs ys:List Int}{i:Nat}{x y:Int}(hx:xs[i]?=some x)(hy:ys[i]?=some y)(h:xs.take i=ys.take i)(e:x=y):xs.take (i+1)=ys.take (i+1):=by
 obtain⟨hj,rfl⟩:=SN.1 hx;obtain⟨hk,rfl⟩:=SN.1 hy;rw[Wb hj,Wb hk,h,e]
theorem yr{xs ys:List Int}{e e':End}(hx:xs.length<2^60)(hk:k (bv (decide (xs=ys))) H):ba lv SC 20 H [.sl xs.length (xs.map iv) e,.sl ys.length (ys.map iv) e'] k kp:=by
 refine bE (rs:=[.tmp 4]) (nt:=26) Tryz.f20 λhH hA=> ?_;simp only[bk,SW];refine ai ?_;refine ai ?_;refine aE ?_;refine⟨λh=> ?_,λh=> ?_⟩
 ·have h:xs≠ys:=λe=>by subst e;simp at h
  refine ai ?_;refine aX ?_;rw[decide_eq_false h]at hk;exact bS hk
 ·have h:xs.length=ys.length:=by
   have h:(xs.length:Int)=ys.length:=(by simpa using h);omega
  refine aN ?_;refine ai ?_;refine cF ?_;refine rM xs.length (λi:Nat=>[(5,iv i)]) (λ_=>_) (λi=>xs.take i=ys.take i) (by simp) (λbT cW i b_ hi R hR=> ?_);refine ai ?_;refine aE ?_;refine⟨λh2=> ?_,λh2=> ?_⟩
  ·have hlt:i<xs.length:=(by omega);obtain⟨x,Ce⟩:=cC hlt;obtain⟨y,ub⟩:=cC (xs:=ys) (i:=i) (by omega);refine aN ?_;refine cF ?_;refine eo 8 ?_;simp only[seval,fZ Ce,fZ ub,je hlt,je (eB ub)];refine aE ?_;refine⟨λh3=> ?_,λh3=> ?_⟩
   ·have h3:xs≠ys:=λe=>(by subst e;rw[Ce]at ub;cases ub;simp at h3);refine ai ?_;refine aX ?_;rw[decide_eq_false h3]at hk;exact bS hk
   ·have h3:x=y:=(by simpa using h3);refine aN ?_;refine ai ?_;refine hR _ ⟨hlt,aqB Ce ub hi h3,?_⟩;rw[bC _ (by omega)];exact dn
  ·have iw:i=xs.length:=(by omega);refine b9 ?_;refine ai ?_;refine aX ?_;have h3:xs=ys:=by
    rw[iw,TH]at hi;rw[hi,h,TH]
   rw[decide_eq_true h3]at hk;exact bS hk
end
def fy (x:ak)(deep:Int)(D:Kn):Prop:=∃(p:Nat)(js:List Nat),x.an=p/\js.Perm (SV (p+1))/\nv x deep js D/\bH D
theorem ut(x:ak):∀a∈x.l,a.leaf=true:=λa ha=>by
 simp only[ak.l,SL,S0,or_false]at ha;rcases ha with rfl|rfl|rfl|rfl|rfl|rfl<;>rfl
section
variable {H:List aa}{k kp:AV->List aa->Prop}
theorem HD{lv:Bool}:Nj lv H (.fn (.func 52) [] []) true:=λL k kp hk=>dC (ahy hk)
theorem ahi{x:ak}(hx:x.Ok)(hm:H[0]?=some .main)(hk:∀D,fy x 0 D->k (.aJ [iv (if D.has then(D.aK.length:Int)else 0),iv 0]) H):ba true SC 21 H [x.av] k kp:=by
 refine bE (rs:=[.tmp 2,.tmp 3]) (nt:=19) Tryz.f21 λhH hA=> ?_;simp only[bk,SW,ak.av];have hp:=hx.an;obtain⟨p,gO⟩:∃p:Nat,x.an=p:=⟨x.an.toNat,by omega⟩;have bP:x.l=[iv x.first,iv x.hours,iv x.an,dS x.seen,aZ x.pieces,aZ x.aB]:=rfl;have bh:∀(L:List aa),(H++L)[H.length]?=L[0]?:=λL=>a_ H L 0;have dA:x.l.length=6:=rfl;have hO:Un 6 x.l=x.l:=rfl;refine ai ?_;refine aj ?_;simp only[seval,bh,dA,hO];refine aM ((yu (x:=x) hx gO (fA hm) HD (λh=>by cases h) λ_ js D L mp gZ ji dU so hg=> ?_));have nG:fy x 0 D:=⟨p,js,gO,gZ,ji,dU⟩;have fb:=Kn.len dU mp;have lL:=ui D mp;obtain⟨B,hB⟩:∃B,B=H++[aa.cells x.l 26]++L:=⟨_,rfl⟩;rw[<- hB]at hg⊢;(try simp only[seval,ak.av,dA,fb]);refine⟨ut x,lL,?_⟩;have eU:∀(L':List aa)(n:Int),k (.aJ [iv n,iv 0]) H->cy H.length (B++L') (.aJ [iv n,iv 0]) k:=λL' n h=>by
  rw[hB,SD,SD];exact jx hH (Wk.refl _) (by simp[jm,eE]) h
 have nK:∀(L':List aa),(B++L')[B.length+1]?=L'[1]?:=λL'=>a_ B L' 1;have vv:∀(L':List aa),(B++L')[mp]?=some (.obj (.map (D.aK.zipIdx.map ee).toArray D.aK.length)):=λL'=>fA hg;have di:(D.l mp).drop 1=.mp mp::((D.l mp).drop 2):=rfl;have aI:=hk D nG;cases hh:D.has with
 |false=>
  have hE:eS D=11:=by rw[eS,hh];rfl
  rw[hh]at aI;refine aj ?_;simp only[seval,hE,show ((11:Int)==11)=true from rfl];refine aE ?_;refine ai ?_;refine aX ?_;exact eU _ 0 aI
 |true=>
  have hE:eS D=0:=by rw[eS,hh];rfl
  rw[hh]at aI;refine aj ?_;simp only[seval,hE,show ((0:Int)==11)=false from rfl];refine aE ?_;refine aN ?_;refine aj ?_;simp only[seval,nK,di,vv];have aT:(D.aK.zipIdx.map ee).toArray.size=D.aK.length:=by simp
  rw[adv _ _ _ _ _ F.Nm (vv _),aT];refine aX ?_;exact eU _ _ aI
end
namespace Tk
def vM (some other:Bool):Int:=if some&&other then 3 else if some then 1 else 2
end Tk
open Go.Conc Go.Proofs Go.Gg.Tk
section
variable {lv:Bool}{H:List aa}{k kp:AV->List aa->Prop}
theorem ahE{D:Kn}{mp s q:Nat}(hD:bH D)(hs:s<3)(hq:q<4)(hk:k (iv (vM ((D.aS.getD s 0).testBit q) (D.aS.getD s 0!=2^q))) H):ba lv SC 60 H [.agg (D.l mp),.cS 97 (.agg [iv s,iv q])] k kp:=by
 refine bE (rs:=[.tmp 4]) (nt:=65) Tryz.f60 λhH hA=> ?_;simp only[bk,SW];have fb:=Kn.len hD mp;obtain⟨u,hu⟩:=cC (xs:=D.aS) (i:=s) (by rw[hD.aS];exact hs);have lj:D.aS.getD s 0=u:=by rw[SE,hu];rfl
 rw[lj]at hk;have lu:=hD.lw _ (Ti hu);have b3:(0<=(s:Int)/\(s:Int)<3)=True:=by simp;omega
 have bh:∀(L:List aa),(H++L)[H.length]?=L[0]?:=λL=>a_ H L 0;have di:∀(L:List aa),(H++L)[H.length+1]?=L[1]?:=λL=>a_ H L 1;have BD:=Kn.CH hD (mp:=mp) hu;refine ai ?_;refine ai ?_;refine ai ?_;refine aj ?_;simp only[seval,F.ak3];refine aE ?_;refine aj ?_;simp only[seval,F.R_];refine aE ?_;refine ai ?_;refine eo 18 ?_;simp only[seval,bh,di,b3,BD];refine ie (bv (u.testBit q)) (dC (wH lu ⟨rfl,rfl⟩)) ?_;refine ie (wv (2^q)) (dC (tx (m:=0) (by decide) (show q<16 by omega) ⟨by rw[Nat.zero_or],rfl⟩)) ?_;have aC:((u:Int)!=((2^q:Nat):Int))=(u !=2^q):=by
  rw[U6,bne_iff_ne,bne_iff_ne];exact not_congr Int.ofNat_inj
 rw[show wv u=AV.val (.int .u16 (u:Int))from rfl,show wv (2^q)=AV.val (.int .u16 ((2^q:Nat):Int))from rfl,Nv,aC];have fin:∀(L:List aa)(n:Int),vM (u.testBit q) (u !=2^q)=n->cy H.length (H++L) (iv n) k:=λL n h=>by rw[h]at hk;exact kS hH hk
 generalize u.testBit q=s1 at fin⊢;generalize(u !=2^q)=s2 at fin⊢;cases s1<;>cases s2
 all_goals
  refine ai ?_;refine cF ?_;refine cF ?_;refine cF ?_;refine ai ?_;refine aE ?_
 ·refine aN ?_;refine ai ?_;refine aE ?_;refine b9 ?_;refine ai ?_;refine ai ?_;refine b9 ?_;refine ai ?_;refine aX ?_;exact fin _ 2 rfl
 ·refine aN ?_;refine ai ?_;refine aE ?_;refine b9 ?_;refine ai ?_;refine ai ?_;refine b9 ?_;refine ai ?_;refine aX ?_;exact fin _ 2 rfl
 ·refine aN ?_;refine ai ?_;refine aE ?_;refine aN ?_;refine b9 ?_;refine ai ?_;refine b9 ?_;refine ai ?_;refine aX ?_;exact fin _ 1 rfl
 ·refine b9 ?_;refine ai ?_;refine ai ?_;refine ai ?_;refine b9 ?_;refine ai ?_;refine aX ?_;exact fin _ 3 rfl
theorem anI{x:ak}{q:Nat}(hq:q<x.pieces.length):xG x [(q:Int)]=true:=by
 unfold xG;simp;omega
theorem ahC{x:ak}{s q ir ip is:Nat}(hx:x.Ok)(hs:s<x.aB.length)(hq:q<x.pieces.length)(hr:H[ir]?=some (.cells x.l 26))(h1:H[ip]?=some (.cells [iv q] 3))(h2:H[is]?=some (.cells [iv s] 3))(hk:k (bv true) H):ba lv SC 57 H [.op ir 0,.op ip 0,.op is 0] k kp:=by
 refine bE (rs:=[.tmp 3]) (nt:=18) Tryz.f57 λhH hA=> ?_;simp only[bk,SW];have bP:x.l=[iv x.first,iv x.hours,iv x.an,dS x.seen,aZ x.pieces,aZ x.aB]:=rfl;have dA:x.l.length=6:=rfl;have hO:Un 6 x.l=x.l:=rfl;have aP:=hx.eP;have bh:∀(L:List aa),(H++L)[H.length]?=L[0]?:=λL=>a_ H L 0;have di:∀(L:List aa),(H++L)[H.length+1]?=L[1]?:=λL=>a_ H L 1;have ay:=anI hq;have hw:SF.wrap ((x.aB.length:Int)-1)=(x.aB.length:Int)-1:=bC _ (by omega);have b_:(decide ((s:Int)<0)||decide ((s:Int)>(x.aB.length:Int)-1))=false:=by simp;omega
 refine ai ?_;refine aj ?_;simp only[seval,z1,hr,h1,dA,hO];(try refine⟨by decide,?_⟩);refine aM ((Iy (x:=x) (ns:=[(q:Int)]) (e:=.exact) ?_));(try simp only[seval]);refine aM ((IC (x:=x) (ns:=[(q:Int)]) (e:=.exact) hx (by simp) (by rw[di];rfl) (by rw[bh];rfl) ?_));(try simp only[seval,ay,fA hr,fA h2,bP,aZ,hw]);refine aM ((rU ?_));(try simp only[seval,b_]);refine aX ?_;exact kS hH hk
theorem ahp{x:ak}{s q:Nat}(hx:x.Ok)(hs:s<x.aB.length)(hq:q<x.pieces.length)(hm:H[0]?=some .main)(hk:∀D,fy x 2 D->k (.aJ [iv (if D.has then vM ((D.aS.getD s 0).testBit q) (D.aS.getD s 0!=2^q)else 0),iv (eS D)]) H):ba true SC 28 H [x.av,iv s,iv q] k kp:=by
 refine bE (rs:=[.tmp 6,.tmp 7]) (nt:=27) Tryz.f28 λhH hA=> ?_;simp only[bk,SW,ak.av];have hp:=hx.an;obtain⟨p,gO⟩:∃p:Nat,x.an=p:=⟨x.an.toNat,by omega⟩;have bh:∀(L:List aa),(H++L)[H.length]?=L[0]?:=λL=>a_ H L 0;have di:∀(L:List aa),(H++L)[H.length+1]?=L[1]?:=λL=>a_ H L 1;have kC:∀(L:List aa),(H++L)[H.length+2]?=L[2]?:=λL=>a_ H L 2;have dA:x.l.length=6:=rfl;have hO:Un 6 x.l=x.l:=rfl;refine ai ?_;refine aj ?_;simp only[seval,bh,dA,hO,T_,UA,Ug,TP];refine aM ((yu (x:=x) (b:=true) hx gO (fA hm) (λL k kp hk=>dC (ahC hx hs hq (by rw[SD,bh];rfl) (by rw[SD,kC];rfl) (by rw[SD,di];rfl) hk)) (λh=>by cases h) λ_ js D L mp gZ ji dU so hg=> ?_));have nG:fy x 2 D:=⟨p,js,gO,gZ,ji,dU⟩;have fb:=Kn.len dU mp;have lL:=ui D mp;obtain⟨Y,hY⟩:∃Y:List aa,Y=[aa.cells x.l 26,.cells [iv s] 3,.cells [iv q] 3]++L:=⟨_,rfl⟩;obtain⟨B,hB⟩:∃B,B=H++Y:=⟨_,rfl⟩;have rY:H++[aa.cells x.l 26,.cells [iv s] 3,.cells [iv q] 3]++L=B:=by rw[hB,hY,SD]
 have nK:∀(L':List aa),(B++L')[B.length+1]?=L'[1]?:=λL'=>a_ B L' 1;have hbs:∀(L':List aa),(B++L')[H.length+1]?=some (.cells [iv s] 3):=λL'=>by rw[hB,hY,SD,di];rfl
 have hbq:∀(L':List aa),(B++L')[H.length+2]?=some (.cells [iv q] 3):=λL'=>by rw[hB,hY,SD,kC];rfl
 have aI:=hk D nG;have eU:∀(L':List aa)(n m:Int),k (.aJ [iv n,iv m]) H->cy H.length (B++L') (.aJ [iv n,iv m]) k:=λL' n m h=>by
  rw[hB,SD];exact jx hH (Wk.refl _) (by simp[jm,eE]) h
 rw[rY];clear rY hg hB;(try simp only[seval,ak.av,dA,fb]);refine⟨ut x,lL,?_⟩;cases hh:D.has with
 |false=>
  have hE:eS D=11:=by rw[eS,hh];rfl
  rw[hE,hh]at aI;refine aj ?_;simp only[seval,hE,show ((11:Int)!=0)=true from rfl];refine aE ?_;refine ai ?_;refine aX ?_;exact eU _ 0 11 aI
 |true=>
  have hE:eS D=0:=by rw[eS,hh];rfl
  rw[hE,hh]at aI;refine aj ?_;simp only[seval,hE,show ((0:Int)!=0)=false from rfl];refine aE ?_;refine aN ?_;refine aj ?_;simp only[seval,F.R_,nK,hbs,hbq,fb];rw[SX (i:=28) (by rw[fb];exact SQ _)];refine aM ((ahE (s:=s) (q:=q) dU (by have:=hx.eP;omega) (by have:=hx.cZ;omega) ?_));(try simp only[seval]);refine aX ?_;exact eU _ _ 0 aI
end
theorem z2:gr (SG .i64 0) 2=[iv 0,iv 0]:=rfl
section
variable {H:List aa}{k kp:AV->List aa->Prop}
end
namespace Tk
structure gI where
 lo:Int
 hi:Int
 is:Bool
def gI.add (b:gI)(v:Int):gI:=if b.is then⟨min b.lo v,max b.hi v,true⟩else⟨v,v,true⟩
end Tk
def Tk.gI.l (b:gI):List AV:=[iv b.lo,iv b.hi,bv b.is]
section
variable {lv:Bool}{H:List aa}{k kp:AV->List aa->Prop}
theorem ahJ{b:gI}{v:Int}{i:Nat}(hi:H[i]?=some (.cells b.l 112))(hk:k (.aJ []) (H.set i (.cells (b.add v).l 112))):ba lv SC 74 H [.op i 0,iv v] k kp:=by
 refine bE (rs:=[]) (nt:=38) Tryz.f74 λhH hA=> ?_;simp only[bk,SW];have bt:=eB hi;obtain⟨hp,eM⟩:∃hp:List AV->List aa,∀l,hp l=H.set i (.cells l 112):=⟨_,λ_=>rfl⟩;have h0:H=hp b.l:=by rw[eM];exact(pQ hi).symm
 have hg:∀l,(hp l)[i]?=some (.cells l 112):=λl=>by rw[eM,UR,if_pos rfl,if_pos bt]
 have hs:∀l l',(hp l).set i (.cells l' 112)=hp l':=λl l'=>by rw[eM,eM,W8]
 have fin:∀(N:Nat)(l:List AV),l=(b.add v).l->cy N (hp l) (.aJ []) k:=λN l e=>by
  rw[e,eM];exact bS hk
 rw[h0];clear hH hA eM h0 hi hk;refine aj ?_;simp only[seval,hg,gI.l];refine aE ?_;refine⟨λh=> ?_,λh=> ?_⟩
 ·have hb:b.is=false:=by simpa using h
  refine aj ?_;simp(maxSteps:=4000000) only[seval,hg,hs];refine qi [16,19] (SV 20) (λD=>bif isDone 19 D then hp [iv (min v v),iv (max v v),bv true]else bif isDone 16 D then hp [iv (min v v),iv v,bv true]else hp [iv v,iv v,bv true]) ?_;simp only[seval,hg,hs];have m1:(if v<v then v else v)=v:=by split<;>rfl
  have m2:min v v=v:=by omega
  have m3:max v v=v:=by omega
  rw[m1,m2,m3];exact⟨rfl,rfl,fin _ _ (by rw[gI.add,if_neg (by rw[hb];decide)];rfl)⟩
 ·have hb:b.is=true:=by simpa using h
  refine aN ?_;refine qi [16,19] (SV 20) (λD=>bif isDone 19 D then hp [iv (min b.lo v),iv (max b.hi v),bv b.is]else bif isDone 16 D then hp [iv (min b.lo v),iv b.hi,bv b.is]else hp [iv b.lo,iv b.hi,bv b.is]) ?_;simp only[seval,hg,hs];have m1:(if v<b.lo then v else b.lo)=min b.lo v:=by split<;>omega
  have m2:(if b.hi<v then v else b.hi)=max b.hi v:=by split<;>omega
  rw[m1,m2];exact⟨rfl,rfl,fin _ _ (by rw[gI.add,if_pos hb,hb];rfl)⟩
end
open Go.Conc Go.Proofs Go.Gg.Tk
namespace Tk
def uS (hour:Nat)(hs:List (List Int)):gI:=hs.foldl (λb h=>b.add (h.getD hour 0)) ⟨0,0,false⟩
end Tk
section
variable {lv:Bool}{H:List aa}{k kp:AV->List aa->Prop}
theorem ahI{x:ak}{hour:Nat}{ih ir:Nat}(hh:(hour:Int)<=x.hours)(h1:H[ih]?=some (.cells [iv hour] 3))(hr:H[ir]?=some (.cells x.l 26))(hk:k (bv true) H):ba lv SC 73 H [.op ih 0,.op ir 0] k kp:=by
 refine bE (rs:=[.tmp 2]) (nt:=8) Tryz.f73 λhH hA=> ?_;simp only[bk,SW];have bP:x.l=[iv x.first,iv x.hours,iv x.an,dS x.seen,aZ x.pieces,aZ x.aB]:=rfl;have b_:(decide ((hour:Int)<0)||decide ((hour:Int)>x.hours))=false:=by simp;omega
 refine ai ?_;refine aj ?_;simp only[seval,h1,hr,bP];refine aM ((rU ?_));(try simp only[seval,b_]);refine aX ?_;exact bS hk
theorem ahu{x:ak}{hour:Nat}(hx:x.Ok)(hh:(hour:Int)<=x.hours)(hm:H[0]?=some .main)(hk:∀D,fy x 0 D->(D.has=false->k (.aJ [.agg [iv 0,iv 0],iv 11]) H)/\(D.has=true->∀hs:List (List Int),hs.Perm D.aK->k (.aJ [.agg [iv (uS hour hs).lo,iv (uS hour hs).hi],iv 0]) H)):ba true SC 36 H [x.av,iv hour] k kp:=by
 refine bE (rs:=[.cell 4 46,.tmp 5]) (nt:=41) Tryz.f36 λhH hA=> ?_;simp only[bk,SW,ak.av];have hp:=hx.an;have JM:=hx.hours;obtain⟨p,gO⟩:∃p:Nat,x.an=p:=⟨x.an.toNat,by omega⟩;have bh:∀(L:List aa),(H++L)[H.length]?=L[0]?:=λL=>a_ H L 0;have di:∀(L:List aa),(H++L)[H.length+1]?=L[1]?:=λL=>a_ H L 1;have kC:∀(L:List aa),(H++L)[H.length+2]?=L[2]?:=λL=>a_ H L 2;have fI:∀(L:List aa)(y:aa),(H++L).set (H.length+2) y=H++L.set 2 y:=λL y=>dX H L 2 y;have dA:x.l.length=6:=rfl;have hO:Un 6 x.l=x.l:=rfl;refine ai ?_;refine aj ?_;simp only[seval,bh,dA,hO,T_,UA,Ug,TP];refine aM ((yu (x:=x) (b:=true) hx gO (fA hm) (λL k kp hk=>dC (ahI hh (by rw[SD,di];rfl) (by rw[SD,bh];rfl) hk)) (λh=>by cases h) λ_ js D L mp gZ ji dU so hg=> ?_));have nG:fy x 0 D:=⟨p,js,gO,gZ,ji,dU⟩;have fb:=Kn.len dU mp;have lL:=ui D mp;obtain⟨g_,cz⟩:=hk D nG;obtain⟨Bf,nE⟩:∃Bf:List AV->List aa,∀l,Bf l=H++([aa.cells x.l 26,.cells [iv hour] 3,.cells l 46]++L):=⟨_,λ_=>rfl⟩;have rY:H++[aa.cells x.l 26,.cells [iv hour] 3,.cells [iv 0,iv 0] 46]++L=Bf [iv 0,iv 0]:=by rw[nE,SD]
 obtain⟨N,hN⟩:∃N,N=H.length+3+L.length:=⟨_,rfl⟩;have fB:∀l,(Bf l).length=N:=λl=>by rw[nE,hN];simp;omega
 have b1:∀l (L':List aa),(Bf l++L')[H.length+1]?=some (.cells [iv hour] 3):=λl L'=>by rw[nE,SD,di];rfl
 have b2:∀l (L':List aa),(Bf l++L')[H.length+2]?=some (.cells l 46):=λl L'=>by rw[nE,SD,kC];rfl
 have tg:∀l l' (L':List aa),(Bf l++L').set (H.length+2) (.cells l' 46)=Bf l'++L':=λl l' L'=>by rw[nE,SD,fI,nE];simp
 have bn:∀l (L':List aa)(j:Nat),(Bf l++L')[N+j]?=L'[j]?:=λl L' j=>by rw[<- fB l,a_]
 have uT:∀l (L':List aa)(j:Nat)(y:aa),(Bf l++L').set (N+j) y=Bf l++L'.set j y:=λl L' j y=>by rw[<- fB l,dX]
 rw[rY]at hg⊢;have eU:∀(l:List AV)(L':List aa)(a b:Int)(m:Int),k (.aJ [.agg [iv a,iv b],iv m]) H->cy H.length (Bf l++L') (.aJ [.agg [iv a,iv b],iv m]) k:=λl L' a b m h=>by
  rw[nE,SD];exact jx hH (Wk.refl _) (by simp[jm,eE,sG]) h
 (try simp only[seval,ak.av,dA,fb,fB]);refine⟨ut x,lL,?_⟩;cases iq:D.has with
 |false=>
  have hE:eS D=11:=by rw[eS,iq];rfl
  refine aj ?_;simp only[seval,hE,show ((11:Int)!=0)=true from rfl];refine aE ?_;refine aj ?_;simp only[seval,b2,tg];refine oq ?_;simp only[seval,b2];exact eU _ _ 0 0 11 (g_ iq)
 |true=>
  have hE:eS D=0:=by rw[eS,iq];rfl
  refine aj ?_;simp only[seval,hE,show ((0:Int)!=0)=false from rfl];refine aE ?_;refine aN ?_;refine aj ?_;simp only[seval,fB];refine aj ?_;simp only[seval,T_,UA,Ug,TP];have oz:(D.l mp).drop 1=.mp mp::((D.l mp).drop 2):=rfl;obtain⟨ts,dL⟩:∃ts,ts=D.aK.zipIdx:=⟨_,rfl⟩;obtain⟨ck,EB⟩:∃ck,ck=D.aK.length:=⟨_,rfl⟩;have vv:∀l (L':List aa),(Bf l++L')[mp]?=some (.obj (.map (ts.map ee).toArray ck)):=λl L'=>by
   have h0:(Bf [iv 0,iv 0])[mp]?=some (setH D.aK):=hg;have aC:mp≠H.length+2:=λe=>by
    have:=b2 [iv 0,iv 0] [];rw[SY,<- e,h0]at this;cases this
   have h1:(Bf l)[mp]?=some (setH D.aK):=by
    have:=tg [iv 0,iv 0] l [];rw[SY,SY]at this;rw[<- this,T5 (λe=>aC e.symm)];exact h0
   rw[dL,EB];exact fA h1
  have pn:∀y∈ts,y.2<ck:=λy hy=>by rw[dL]at hy;have:=List.snd_lt_add_of_mem_zipIdx hy;omega
  have BU:(ts.map (·.2)).Nodup:=by rw[dL,show (λy:List Int×Nat=>y.2)=Prod.snd from rfl,List.zipIdx_map_snd];exact List.nodup_range'
  have h4:∀y∈ts,y.1.length=4:=λy hy=>by rw[dL]at hy;exact dU.h4 _ (Da hy)
  have eI:=N7 ts ck pn;have KJ:ts.map (·.1)=D.aK:=by rw[dL,show (λy:List Int×Nat=>y.1)=Prod.fst from rfl,List.zipIdx_map_fst]
  clear dL;refine aj ?_;simp only[seval,fB,bn,oz,vv];obtain⟨jC,eM⟩:∃jC:gI->Array Nat->List aa,∀b sn,jC b sn=Bf [iv 0,iv 0]++[.cells x.l 76,.cells (D.l mp) 88,.cells b.l 112,.iter mp ck sn ck]:=⟨_,λ_ _=>rfl⟩;have p1:∀b sn (L':List aa),(jC b sn++L')[H.length+1]?=some (.cells [iv hour] 3):=λb sn L'=>by rw[eM,SD];exact b1 _ _
  have p2:∀b sn (L':List aa),(jC b sn++L')[N+2]?=some (.cells b.l 112):=λb sn L'=>by rw[eM,SD,bn];rfl
  have p3:∀b sn (L':List aa),(jC b sn++L')[N+3]?=some (.iter mp ck sn ck):=λb sn L'=>by rw[eM,SD,bn];rfl
  have p3':∀b sn,(jC b sn)[N+3]?=some (.iter mp ck sn ck):=λb sn=>by have:=p3 b sn [];rwa [SY]at this
  have p4:∀b sn (L':List aa),(jC b sn++L')[N+4]?=L'[0]?:=λb sn L'=>by rw[eM,SD,bn];rfl
  have pm:∀b sn (L':List aa),(jC b sn++L')[mp]?=some (.obj (.map (ts.map ee).toArray ck)):=λb sn L'=>by rw[eM,SD];exact vv _ _
  have L4:∀b sn,(jC b sn)[mp]?=some (.obj (.map (ts.map ee).toArray ck)):=λb sn=>by have:=pm b sn [];rwa [SY]at this
  have s2:∀b sn b' (L':List aa),(jC b sn++L').set (N+2) (.cells (gI.l b') 112)=jC b' sn++L':=λb sn b' L'=>by rw[eM,SD,uT,eM,SD];rfl
  have s3:∀b sn ME,(jC b sn).set (N+3) (.iter mp ck ME ck)=jC b ME:=λb sn ME=>by rw[eM,uT,eM];rfl
  have pl:∀b sn,(jC b sn).length=N+4:=λb sn=>by rw[eM];simp[fB]
  have aP:Bf [AV.val (SG SF 0),AV.val (SG SF 0)]++[.cells x.l 76,.cells (D.l mp) 88,.cells [AV.val (SG SF 0),AV.val (SG SF 0),AV.val (Xb false)] 112,.iter mp ck #[] ck]=jC ⟨0,0,false⟩ #[]:=by rw[eM];rfl
  rw[aP];have oC:hour<4:=by omega
  have b4:(0<=(hour:Int)/\(hour:Int)<4)=True:=by simp;omega
  have s46:∀b sn l,(jC b sn).set (H.length+2) (.cells l 46)=Bf l++[.cells x.l 76,.cells (D.l mp) 88,.cells b.l 112,.iter mp ck sn ck]:=λb sn l=>by rw[eM,tg]
  have p46:∀b sn,(jC b sn)[H.length+2]?=some (.cells [iv 0,iv 0] 46):=λb sn=>by rw[eM,b2]
  have p2':∀b sn,(jC b sn)[N+2]?=some (.cells (gI.l b) 112):=λb sn=>by have:=p2 b sn [];rwa [SY]at this
  refine cF ?_;refine yc (measure λvs:List (List Int×Nat)=>ts.length-vs.length).wf (λvs=>[]) (λvs=>jC (uS hour (vs.map (·.1))) (vs.map (·.2)).toArray) (λvs=>(vs.map (·.2)).Nodup/\∀y∈vs,y∈ts) [] (λ_ _=>rfl) (by simp) rfl (λ_ _=>by simp[pl]) ⟨by simp,by simp⟩ (λbT cW vs ay R hR=> ?_);refine aj ?_;simp only[seval,p3',L4,s3];refine⟨eI.elim .inl (λh=> .inr (.inl h)),λe he hn=> ?_,λhs=> ?_⟩
  ·obtain⟨y,hy,rfl⟩:∃y∈ts,ee y=e:=(by simpa using he);refine aE ?_;refine aN ?_;refine cF ?_;have rX:=h4 y hy;have Jl:(ee y).born=y.2:=rfl;have hlen:(y.1.map iv).length=4:=(by simp[rX]);have Ju:Ur 4 [AV.val (SG SF 0),AV.val (SG SF 0),AV.val (SG SF 0),AV.val (SG SF 0)]=[]:=rfl;obtain⟨w,hw⟩:=cC (xs:=y.1) (i:=hour) (by omega);have KM:y.1.getD hour 0=w:=(by rw[SE,hw];rfl);have KR:y.2∉vs.map (·.2):=(by simpa[ee]using hn);have EX:((vs.map (·.2)).toArray.push y.2)=((vs++[y]).map (·.2)).toArray:=(by simp);have aja:(uS hour (vs.map (·.1))).add w=uS hour ((vs++[y]).map (·.1)):=by
    unfold uS;rw[TF,ZO];show _=gI.add _ (y.1.getD hour 0);rw[KM]
   have sq:((vs++[y]).map (·.2)).Nodup/\∀z∈vs++[y],z∈ts:=by
    refine⟨?_,λz hz=> ?_⟩
    ·rw[TF,U4];refine⟨ay.1,by simp,λa ha b hb=> ?_⟩;simp at hb;subst hb;intro e;subst e;exact KR ha
    ·rcases SS.1 hz with h|h
     ·exact ay.2 z h
     ·rw[S5.1 h];exact hy
   have asG:vs.length<ts.length:=by
    have h1:(vs++[y]).Nodup:=CA _ sq.1;have:=h1.length_le_of_subset sq.2;simp at this;omega
   have qK:ts.length-(vs++[y]).length<ts.length-vs.length:=(by simp;omega);have EU:∀b sn,bM (jC b sn):=λb sn z hz=>by
    have PX:bM (jC ⟨0,0,false⟩ #[]):=bT;rw[pl];rw[eM]at hz;have b_:∀z,z∈jC ⟨0,0,false⟩ #[]->eR (N+4) z:=λz hz=>by
     have:=PX z hz;rwa [pl]at this
    rcases SS.1 hz with h|h
    ·exact b_ z (by rw[eM];exact Te _ h)
    ·simp only[SL,S0,or_false]at h;rcases h with rfl|rfl|rfl|rfl
     ·exact b_ _ (by rw[eM];simp)
     ·exact b_ _ (by rw[eM];simp)
     ·intro a ha;simp only[gI.l,SL,S0,or_false]at ha;rcases ha with rfl|rfl|rfl<;>exact .val _
     ·show mp<N+4;have:=eB (L4 ⟨0,0,false⟩ #[]);rwa [pl]at this
   refine aj ?_;simp only[seval,p3',L4,s3,pl,p4,Jl,Array.back?_push,Pj BU hy,aaR,rX,hlen,Ju];refine aj ?_;simp only[seval,p1,p4,b4,kv hw];refine aM ((ahJ (b:=uS hour (vs.map (·.1))) (v:=w) (i:=N+2) (p2 _ _ _) ?_));rw[s2,aja,EX];(try simp only[seval]);refine hR _ ⟨vs++[y],qK,sq,?_⟩;exact abp (pI rfl rfl) (by simp only[seval]<;>simp[bN,Wk.refl]) (EU _ _) (by simp[eE])
  ·have na:vs.Perm ts:=abA ay.1 BU ay.2 λy hy=>by
    have:=hs (ee y) (by simp;exact⟨y.1,y.2,hy,rfl⟩) (pn y hy);simpa[ee]using this
   have Ko:(vs.map (·.1)).Perm D.aK:=by
    have:=na.map (·.1);rw[KJ]at this;exact this
   have aI:=cz iq _ Ko;generalize Ew:uS hour (vs.map (·.1))=bv' at aI;refine aE ?_;refine b9 ?_;refine aj ?_;simp only[seval,p2',p46,s46,gI.l,Ew];refine oq ?_;simp only[seval,b2];exact eU _ _ _ _ 0 aI
end
open Go.Conc Go.Proofs Go.Gg.Tk
namespace Tk
end Tk
section
variable {lv:Bool}{H:List aa}{k kp:AV->List aa->Prop}
end
open Go.Conc Go.Proofs Go.Gg.Tk
namespace Tk
def zt (out n:Int):Int:=if 0<=n/\(out<0\/n<out)then n else out
def xv (l:List Int):Int:=l.foldl zt (-1)
def tz (aS:List Nat)(i:Nat):List Int:=(SV i).flatMap λs=>if 1<(fq (aS.getD s 0) 0 16).length then[-1]else fq (aS.getD s 0) 0 16
theorem PJ(aS:List Nat)(i:Nat):tz aS (i+1)=tz aS i++(if 1<(fq (aS.getD i 0) 0 16).length then[-1]else fq (aS.getD i 0) 0 16):=by
 unfold tz;rw[Vk,VR];simp
theorem PI(aS:List Nat):∀i,(tz aS i).length<=i
 |0=>by simp[tz]
 |i+1=>by
  have:=PI aS i;rw[PJ,S9];split
  ·simp;omega
  ·omega
end Tk
theorem GR{a a' b b':AV}(h1:Wk a a')(h2:Wk b b'):Wk (.aJ [a,b]) (.aJ [a',b']):=λE v h=>by
 cases h with
 |aJ hs h=>
  refine .aJ hs λi x e=> ?_
  match i with
  |0=>cases e;exact h1 _ _ (h 0 a rfl)
  |1=>cases e;exact h2 _ _ (h 1 b rfl)
open Go.Conc Go.Proofs Go.Gg.Tk
section
variable {lv:Bool}{H:List aa}{k kp:AV->List aa->Prop}
theorem ahm{x:ak}(hx:x.Ok)(hm:H[0]?=some .main)(hk:∀D,fy x 2 D->(D.has=false->k (.aJ [bp [],iv 11]) H)/\(D.has=true->k (.aJ [bp (tz D.aS x.aB.length),iv 0]) H)):ba true SC 26 H [x.av] k kp:=by
 refine bE (rs:=[.tmp 2,.tmp 3]) (nt:=39) Tryz.f26 λhH hA=> ?_;simp only[bk,SW,ak.av];have hp:=hx.an;have aP:=hx.eP;obtain⟨p,gO⟩:∃p:Nat,x.an=p:=⟨x.an.toNat,by omega⟩;have bP:x.l=[iv x.first,iv x.hours,iv x.an,dS x.seen,aZ x.pieces,aZ x.aB]:=rfl;have bh:∀(L:List aa),(H++L)[H.length]?=L[0]?:=λL=>a_ H L 0;have dA:x.l.length=6:=rfl;have hO:Un 6 x.l=x.l:=rfl;refine ai ?_;refine aj ?_;simp only[seval,bh,dA,hO];refine aM ((yu (x:=x) hx gO (fA hm) HD (λh=>by cases h) λ_ js D L mp gZ ji dU so hg=> ?_));have nG:fy x 2 D:=⟨p,js,gO,gZ,ji,dU⟩;have fb:=Kn.len dU mp;have lL:=ui D mp;obtain⟨g_,cz⟩:=hk D nG;obtain⟨Y,hY⟩:∃Y:List aa,Y=[aa.cells x.l 26]++L:=⟨_,rfl⟩;obtain⟨B,hB⟩:∃B,B=H++Y:=⟨_,rfl⟩;have rY:H++[aa.cells x.l 26]++L=B:=by rw[hB,hY,SD]
 have yO:∀(L':List aa),(B++L')[H.length]?=some (.cells x.l 26):=λL'=>by rw[hB,hY,SD,bh];rfl
 have bn:∀(L':List aa)(j:Nat),(B++L')[B.length+j]?=L'[j]?:=λL' j=>a_ B L' j;have uT:∀(L':List aa)(j:Nat)(y:aa),(B++L').set (B.length+j) y=B++L'.set j y:=λL' j y=>dX B L' j y;have eU:∀(L':List aa)(ns:List Int)(e:End)(m:Int),k (.aJ [bp ns,iv m]) H->cy H.length (B++L') (.aJ [.sl ns.length (ns.map iv) e,iv m]) k:=λL' ns e m h=>by
  rw[hB,SD];exact jx hH (GR (iY _ _ _) (Wk.refl _)) (by simp[jm,eE,bp,un]) h
 rw[rY];clear rY hg;(try simp only[seval,ak.av,dA,fb]);refine⟨ut x,lL,?_⟩;cases iq:D.has with
 |false=>
  have hE:eS D=11:=by rw[eS,iq];rfl
  refine aj ?_;simp only[seval,hE,show ((11:Int)!=0)=true from rfl];refine aE ?_;refine ai ?_;refine aX ?_;exact eU _ [] .exact 11 (g_ iq)
 |true=>
  have hE:eS D=0:=by rw[eS,iq];rfl
  refine aj ?_;simp only[seval,hE,show ((0:Int)!=0)=false from rfl];refine aE ?_;refine aN ?_;refine ai ?_
  (repeat apply gX);refine uP (t:=7) (sz:=1) (el:=3) (by simp only[seval]<;>rfl) ?_
  have qA:Ur 5 x.l=[.sl x.aB.length (x.aB.flatMap aG.l) .shut]:=rfl;refine aj ?_;simp only[seval,yO,qA];have AW:∀(L':List aa),(B++L')[B.length+1]?=L'[1]?:=λL'=>bn L' 1;have ye:∀(L':List aa),(B++L')[B.length+2]?=L'[2]?:=λL'=>bn L' 2;have tg:∀(L':List aa)(y:aa),(B++L').set (B.length+2) y=B++L'.set 2 y:=λL' y=>uT L' 2 y;obtain⟨gl,nO⟩:∃gl:Nat->List Int,∀i,gl i=tz D.aS i:=⟨_,λ_=>rfl⟩;have BI:gl 0=[]:=by rw[nO];rfl
  have JJ:∀i,(gl i).length<=i:=λi=>by rw[nO];exact PI _ _
  refine cF ?_;refine gA x.aB.length (λi:Nat=>[(7,.sl (gl i).length ((gl i).map iv) (.opn (B.length+2))),(22,iv i)]) (λi=>B++[.cells x.l 76,.cells (D.l mp) 88,.tail (gl i).length 1 3]) (λi=>True) (λ_ _=>rfl) (by rw[BI];simp only[seval];simp[bN,Wk.refl]) (by rw[BI];rfl) (λ_ _ _=>by simp) trivial (λbT cW i b_ _ R hR=> ?_);refine ai ?_;refine aE ?_;refine⟨λh=> ?_,λh=> ?_⟩
  ·have bt:i<x.aB.length:=(by omega);obtain⟨u,hu⟩:=cC (xs:=D.aS) (i:=i) (by rw[dU.aS];omega);have lu:=dU.lw _ (Ti hu);have b3:(0<=(i:Int)/\(i:Int)<3)=True:=(by simp;omega);have fD:SF.wrap ((i:Int)+1)=((i+1:Nat):Int):=(by rw[bC _ (by omega)];rfl);have BD:=Kn.CH dU (mp:=mp) hu;have cU:gl (i+1)=gl i++(if 1<(fq u 0 16).length then[-1]else fq u 0 16):=by
    rw[nO,nO,PJ,SE,hu];rfl
   have QW:=JJ i;have iN:=Lw u 0 16;refine aN ?_;refine ai ?_;refine aj ?_;simp only[seval,AW,b3,BD];refine aM ((Ix lu (by decide) ?_));(try simp only[seval,bp]);refine ai ?_;refine aE ?_;refine⟨λhb=> ?_,λhb=> ?_⟩
   ·refine aj ?_;simp only[seval,z1];(try refine⟨by decide,?_⟩);refine aj ?_;simp only[seval,ye,tg];refine⟨by omega,?_⟩;refine aj ?_;simp only[seval,fD];have nK:1<(fq u 0 16).length:=(by have h2:(1:Int)<((fq u 0 16).length:Int):=(by simpa using hb);omega);rw[if_pos nK]at cU;refine hR _ ⟨bt,trivial,?_⟩;rw[cU,TF,S9];exact dn
   ·refine aN ?_;refine aj ?_;simp only[seval,ye,tg];refine⟨by omega,?_⟩;refine aj ?_;simp only[seval,fD];have nK:¬1<(fq u 0 16).length:=(by have h2:((fq u 0 16).length:Int)<=1:=(by simpa using hb);omega);rw[if_neg nK]at cU;refine hR _ ⟨bt,trivial,?_⟩;rw[cU,TF,S9];exact dn
  ·have dl:i=x.aB.length:=(by omega);subst dl;refine b9 ?_;refine ai ?_;refine aX ?_;have aI:=cz iq;rw[<- nO]at aI;exact eU _ _ _ 0 aI
theorem ahF{ns:List Int}{e:End}(iO:ns.length<=16)(hk:k (iv (xv ns)) H):ba lv SC 69 H [.sl ns.length (ns.map iv) e] k kp:=by
 refine bE (rs:=[.tmp 2]) (nt:=26) Tryz.f69 λhH hA=> ?_;simp only[bk,SW];refine ai ?_;refine ai ?_;refine ai ?_;refine cF ?_;refine gA ns.length (λi:Nat=>[(3,iv (xv (ns.take i))),(8,iv i)]) (λ_=>_) (λi=>True) (λ_ _=>rfl) (by simp only[seval];simp[bN,Wk.refl];exact Wk.refl _) rfl (λ_ _ _=>rfl) trivial (λbT cW i b_ _ R hR=> ?_);refine ai ?_;refine aE ?_;refine⟨λh=> ?_,λh=> ?_⟩
 ·have bt:i<ns.length:=by omega
  obtain⟨n,hn⟩:=cC bt;have fD:SF.wrap ((i:Int)+1)=((i+1:Nat):Int):=by rw[bC _ (by omega)];rfl
  have cU:xv (ns.take (i+1))=zt (xv (ns.take i)) n:=by
   unfold xv;rw[VG,hn,ZO];rfl
  generalize xv (ns.take i)=o at cU hR⊢;refine aN ?_;refine aj ?_;simp only[seval,fZ hn,je bt];by_cases c1:0<=n
  ·have d1:decide (n>=0)=true:=decide_eq_true c1;by_cases c2:o<0
   ·have d2:decide (o<0)=true:=decide_eq_true c2;refine aj ?_;simp only[seval,d1,d2];refine aE ?_;refine ai ?_;refine aj ?_;simp only[seval,fD];rw[zt,if_pos ⟨c1,.inl c2⟩]at cU;refine hR _ ⟨bt,trivial,?_⟩;rw[cU];exact dn
   ·have d2:decide (o<0)=false:=decide_eq_false c2;by_cases c3:n<o
    ·have d3:decide (n<o)=true:=decide_eq_true c3;refine aj ?_;simp only[seval,d1,d2,d3];refine aE ?_;refine ai ?_;refine aj ?_;simp only[seval,fD];rw[zt,if_pos ⟨c1,.inr c3⟩]at cU;refine hR _ ⟨bt,trivial,?_⟩;rw[cU];exact dn
    ·have d3:decide (n<o)=false:=decide_eq_false c3;refine aj ?_;simp only[seval,d1,d2,d3];refine aE ?_;refine aN ?_;refine aj ?_;simp only[seval,fD];rw[zt,if_neg (λhc=>hc.2.elim c2 c3)]at cU;refine hR _ ⟨bt,trivial,?_⟩;rw[cU];exact dn
  ·have d1:decide (n>=0)=false:=decide_eq_false c1;(repeat apply gX);refine aeQ (by kernel_rfl) ?_;simp only[seval,d1];refine aE ?_;refine aN ?_;refine aj ?_;simp only[seval,fD];rw[zt,if_neg (λhc=>c1 hc.1)]at cU;refine hR _ ⟨bt,trivial,?_⟩;rw[cU];exact dn
 ·have:i=ns.length:=by omega
  subst this;refine b9 ?_;refine ai ?_;refine aX ?_;rw[TH];exact bS hk
end
namespace Tk
def aG.more (y:aG)(n:Int):aG:=⟨⟨y.number.min+n,y.number.max+n⟩,y.hour⟩
def lz (h:List Int)(n:Int):Nat->Int
 |0=> -1
 |i+1=>if h.getD i 0<=n/\n<h.getD (i+1) 0 then i else lz h n i
end Tk
section
variable {lv:Bool}{H:List aa}{k kp:AV->List aa->Prop}
theorem ahl{a b:Int}(hk:k (.agg [iv a,iv b]) H):ba lv SC 24 H [iv a,iv b] k kp:=by
 refine bE (rs:=[.cell 4 46]) (nt:=8) Tryz.f24 λhH hA=> ?_;simp only[bk,SW];refine ai ?_;refine ai ?_;refine aX ?_;exact jx hH (Wk.refl _) (by simp[sG,eE]) hk
theorem Pa{a b c:Int}(hk:k (Seen.av ⟨a,⟨b,c⟩⟩) H):ba lv SC 78 H [iv a,iv b,iv c] k kp:=by
 refine bE (rs:=[.cell 6 61]) (nt:=12) Tryz.f78 λhH hA=> ?_;simp only[bk,SW];refine ai ?_;refine ai ?_;refine aX ?_;exact jx hH (Wk.refl _) (by simp[sG,eE]) hk
theorem qq{a b c d:Int}(hk:k (aG.av ⟨⟨a,b⟩,⟨c,d⟩⟩) H):ba lv SC 79 H [iv a,iv b,iv c,iv d] k kp:=by
 refine bE (rs:=[.cell 8 48]) (nt:=16) Tryz.f79 λhH hA=> ?_;simp only[bk,SW];refine ai ?_;refine ai ?_;refine aX ?_;exact jx hH (Wk.refl _) (by simp[sG,eE]) hk
theorem ahw{h:List Int}{n:Int}{e:End}(hl:h.length<=4)(hk:k (iv (lz h n (h.length-1))) H):ba lv SC 40 H [.sl h.length (h.map iv) e,iv n] k kp:=by
 refine bE (rs:=[.tmp 4]) (nt:=31) Tryz.f40 λhH hA=> ?_;simp only[bk,SW];refine ai ?_;refine ai ?_;refine ai ?_;refine cF ?_;refine gA (h.length-1) (λi:Nat=>[(5,iv (lz h n i)),(6,iv i)]) (λ_=>_) (λi=>True) (λ_ _=>rfl) (by simp only[seval];simp[bN,Wk.refl];exact Wk.refl _) rfl (λ_ _ _=>rfl) trivial (λbT cW i b_ _ R hR=> ?_);have fD:SF.wrap ((i:Int)+1)=((i+1:Nat):Int):=by rw[bC _ (by omega)];rfl
 refine aj ?_;simp only[seval,fD];refine aE ?_;refine⟨λhc=> ?_,λhc=> ?_⟩
 ·have bt:i+1<h.length:=by omega
  obtain⟨a,ha⟩:=cC (xs:=h) (i:=i) (by omega);obtain⟨b,hb⟩:=cC (xs:=h) (i:=i+1) bt;have fQ:h.getD i 0=a:=by rw[SE,ha];rfl
  have du:h.getD (i+1) 0=b:=by rw[SE,hb];rfl
  have ik:=je (show i<h.length by omega);have tJ:(0<=(i:Int)+1/\(i:Int)+1<(h.length:Int))=True:=by simp;omega
  have lh:((i:Int)+1).toNat=i+1:=by omega
  have cU:lz h n (i+1)=if a<=n/\n<b then(i:Int)else lz h n i:=by rw[lz,fQ,du]
  refine aN ?_;refine cF ?_;by_cases c1:a<=n
  ·have d1:decide (a<=n)=true:=decide_eq_true c1;by_cases c2:n<b
   ·have d2:decide (n<b)=true:=decide_eq_true c2;refine aj ?_;simp only[seval,fZ ha,fZ hb,ik,tJ,lh,d1,d2,fD];refine aE ?_;refine ai ?_;refine aj ?_;simp only[seval,fD];rw[if_pos ⟨c1,c2⟩]at cU;refine hR _ ⟨by omega,trivial,?_⟩;rw[cU];exact dn
   ·have d2:decide (n<b)=false:=decide_eq_false c2;refine aj ?_;simp only[seval,fZ ha,fZ hb,ik,tJ,lh,d1,d2,fD];refine aE ?_;refine aN ?_;refine aj ?_;simp only[seval,fD];rw[if_neg (λhh=>c2 hh.2)]at cU;refine hR _ ⟨by omega,trivial,?_⟩;rw[cU];exact dn
  ·have d1:decide (a<=n)=false:=decide_eq_false c1;refine aj ?_;simp only[seval,fZ ha,ik,d1];refine aE ?_;refine aN ?_;refine aj ?_;simp only[seval,fD];rw[if_neg (λhh=>c1 hh.1)]at cU;refine hR _ ⟨by omega,trivial,?_⟩;rw[cU];exact dn
 ·have dl:i=h.length-1:=by omega
  subst dl;refine b9 ?_;refine ai ?_;refine aX ?_;exact bS hk
end
end Go.Gg
