/- A part of the proof. -/
import Derived.Test.YtkanpclgnhdbiaaGreatDoorTicketTrueCard2
import Derived.Conc.CrowdStepC
import Derived.Conc.LeavingOf
import Derived.Conc.AtomicLaws
import Derived.Conc.AtomicLaws2
import Derived.Conc.MarkLaws
import Derived.Conc.SmallLaws
import Derived.Laws.LoneSync
import Derived.KernelRfl
import Derived.Test.YtkanpclgnhdbiaaGreatDoorProg
import Derived.Conc.TokenWalk
set_option linter.all false
set_option maxRecDepth 4000
set_option maxHeartbeats 4000000
open Array renaming all_eq_true_iff_forall_mem->UH,append_assoc->Xp,empty_append->Xo,ext'->VD,getD_eq_getD_getElem?->SI,getElem?_eq_getElem->SK,getElem?_eq_some_iff->SU,getElem?_push->Xh,getElem?_setIfInBounds->Wq,getElem?_setIfInBounds_ne->SV,getElem?_setIfInBounds_self_of_lt->S_,getElem_mem->XS,isEmpty_empty->Y4,mem_iff_getElem?->YF,replicate->TK,size->ae_
open BitVec renaming ofInt->Ug
open Bool renaming and_eq_true->Tc,eq_iff_iff->UY,false_or->ZB,not_eq_true'->TV,not_false->YD,not_true->an_,true_or->ai'
open Classical renaming byContradiction->Tl
open Eq renaming trans->VK
open Function renaming comp_def->Yx
open Go renaming Addr->U3,CallKind->Xe,Code->T7,Deferred->UX,Event->Uo,Frame->T_,FrameMode->U7,Func->YC,FuncId->TO,GStep->ZI,Goroutine->SH,IntKind->TU,Item->WU,Machine->ar',MemOp->Wd,Oper->Tx,Operand->Tm,Program->SJ,ResultVar->UL,Trace->Uk,Value->SP,World->Tq,mark->ag_,step->ag2
open Go.Conc renaming Deaf->UT,Deaf_other->atS,Good->WZ,Knows->Wo,QuitsD->Y_,act?_of->ai_,casT_eq->Z6,crowd_pick->Z1,deaf_succ->ad_,finishComm_recv->Yw,finishComm_send->ah',getElem?_stand->X7,heard_old->Ws,knows_own->Zh,lt_size_of_getElem?->TG,mem_ofEvents->TL,mem_of_getElem?->XR,offersAt_of_not_blocked->UW,offersAt_parked_send->ZK,offersAt_ph->Zr,runT_crowd_spawn->ac',seen_none->ac_,served->T4,stepG_entry->ZJ,stepG_same->Xd,stepG_value->atQ,touch_of->UV,woken_run->Yk
open Go.Conc.QuitsD renaming status->ZL
open Go.ConcN renaming le_sumTo->WF,sumTo_congr->Vl
open Go.Event renaming mute->WI
open Go.Extern.Atomic renaming casT->WV,loadT->XY,storeT->XQ,update->XP
open Go.Extern.Race renaming marked->VJ,none_->W7
open Go.Extern.Sync renaming semacquire->WH,semrelease->XO
open Go.GStep renaming after->T1
open Go.Goroutine.mk renaming injEq->ah_
open Go.Instr renaming loadAt->Xz,sureAddr->U9
open Go.IntKind renaming i64->SF,u32->al',u64->TB,wrap->Xc
open Go.MemAct renaming ofEvent->Tt
open Go.MemOp renaming ofEvents->Ta
open Go.Obj renaming deferred->at0
open Go.Op renaming intArith->atZ
open Go.Operand renaming const->atY,tmp->atL
open Go.Proofs.Tryz renaming f77->XK,prog->SC
open Go.Region renaming wanted->Tj
open Go.Result renaming ok->Yg
open Go.Sem renaming runT_eq->TC
open Go.Trace renaming g?->WC
open Go.Value renaming bool->Xb,chan->XN,int->SG
open Go.World renaming cell?->Ux,frozen?->ZW,setChan->Wi
open Int renaming toNat_natCast->VA
open List renaming any_cons->YV,any_eq_true->Uv,append_assoc->SD,append_nil->S0,cons_append->Vf,drop->UD,drop_eq_nil_of_le->TS,ext_getElem?->Yo,findIdx?_eq_none_iff->Yd,findIdx?_eq_some_iff_getElem->Xr,flatMap_append->VR,foldl_append->ZU,foldl_cons->UR,forall_mem_cons->Xg,getD_eq_getElem?_getD->SE,getElem?_append_left->SX,getElem?_append_right->Th,getElem?_drop->Um,getElem?_eq_getElem->SQ,getElem?_eq_none->Ut,getElem?_eq_some_iff->SM,getElem?_map->To,getElem?_range->Xw,getElem?_set->UU,getElem?_set_ne->T6,getElem?_toArray->Ve,getElem_mem->VQ,getLast?_eq_some_getLast->XM,getLastD_eq_getLast?->Vh,getLast_mem->Zu,head?_append->WR,length_append->SO,length_cons->Ui,length_map->Tp,length_nil->UQ,length_pos_iff->Vs,length_range->ZE,length_singleton->TY,mapM_cons->T8,mapM_nil->UA,mapM_toArray->XX,map_append->TF,map_cons->UP,mem_append->SS,mem_append_left->Ti,mem_append_right->S6,mem_cons->SL,mem_flatMap->S5,mem_iff_getElem?->UO,mem_map->Td,mem_of_getElem?->Tf,mem_range->Tu,mem_replicate->Xv,mem_singleton->S9,mem_toArray->TJ,nil_append->UF,nodup_append->U5,nodup_nil->WO,nodup_range->XU,not_mem_nil->S4,range->SZ,range_succ->Vk,replicate->TM,set_append_left->WB,set_cons_succ->UC,set_cons_zero->TZ,set_set->W8,take->Uq,take_add_one->VI,take_append_of_le_length->Tw,take_length->TH,take_of_length_le->SY,take_succ_cons->U8,take_succ_eq_append_getElem->Wc
open List.cons renaming inj->Vw
open Nat renaming add_sub_cancel_left->US,add_zero->UK,eq_zero_or_pos->UZ,le_refl->SR,le_trans->UB,lt_of_lt_of_le->Te,lt_succ_self->Uu,reduceAdd->SW,reduceEqDiff->ZC
open Option renaming bind_eq_bind->TP,bind_eq_some_iff->Tg,getD_none->Vm,getD_some->S8,map_eq_some_iff->Ts,map_some->UM,pure_def->Uh
open Option.some renaming inj->VX,injEq->Tn
open Prod.mk renaming inj->W1,injEq->U0
namespace Go.Gg
open Go.Conc Go.ConcN
section
variable {P:SJ}{n0:Nat}{W0:Tq}{V:View}{gs gs':Array SH}{w w':Tq}{sl:Option (Nat×Nat)}{t:Uk}{K:Nat->GS}{Im:cx}{ic:Nat}{p:Phase}{st st':Option eo}
theorem OE{t:Uk}{g i j:Nat}(hi:t.g? i=some g)(hj:t.g? j=some g)(h:i<=j):Before t i j:=by
 rcases Nat.eq_or_lt_of_le h with rfl|h
 ·exact .inl rfl
 ·obtain⟨a,ha,rfl⟩:=Ts.1 hi;obtain⟨b,hb,hg⟩:=Ts.1 hj;exact .inr (.single (.inl ⟨h,by simp[WC,ha,hb,hg]⟩))
theorem Inv.aey(h:Inv P n0 W0 V gs w t K Im ic (some p) st)(aH:p.recv=true){n:Nat}{gi:SH}(aM:gs[ic]?=some gi)(hK:K ic=.acq n)(jD:tK P Im p.c p.Wg (UT t ic) gi):gz P n0 W0 V gs w sl t K Im ic (some p) st ic:=by
 obtain⟨s,hs,gh,iH,hm⟩:=h.mode aH;obtain⟨m1,m2,m3,m4,m5⟩:=hm.Of (.inr (by rw[hK];rfl));obtain⟨hd,bK,g',aQ,n',dx⟩:=jD;have nD:∀e∈#[j3 (.acquire (dV p.Wg))],e=j3 (.acquire (dV p.Wg)):=λe he=>by simpa using he
 have So:g'.status=.running:=cQ.running (λd g x=>x.2.1) dx;refine h.tC aH (k':=.look n') (s':=.got) gh aM (aQ w) (by rw[hd];exact dx) (by rw[hK];exact Gi Im) (λ_=>rfl) rfl (λj hj=>by rw[hK]at hj;cases hj) (.inl rfl) (λe he x hx=> ?_) (λe he=> ?_) (λe he a=> ?_) rfl (λ_ _ _=>rfl) rfl rfl rfl
  ?_ (.inl m1) ?_ (x_ iH (by rw[hK];exact .inl (by simp[GS.c_])))
 ·rw[nD e he]at hx;cases hx
 ·rw[nD e he];exact h.low.2
 ·rw[nD e he];simp[j3,Tt]
 ·unfold Mode;have e1:sumTo gs.size (λi=>(upd K ic (.look n') i).cnt)=0:=by rw[lz K (.look n') GS.cnt (by rw[hK];rfl)];exact m4
  have e2:sumTo gs.size (λi=>(upd K ic (.look n') i).late)=0:=by rw[lz K (.look n') GS.late (by rw[hK];rfl)];exact m3
  simp only[e1,e2,bw];exact .inr (.inr (.inr (.inr (.inr (.inl ⟨m1,trivial,trivial,trivial,.inl rfl⟩)))))
 ·have hr:Rest p.Wg t K ic st:=h.out.2.2.1;rw[hs,m2]at hr;rw[ofEvents_one];refine hr.app (λidx a ha hx=> .inr ?_) (λidx a _ ⟨op,au,_,hx⟩ _=> ?_)
  ·obtain⟨i,Kh,eS,hx⟩:=hx;have akx:=h.core.ti.norel;have own:t.g? idx=some ic->Wo (t++#[{g:=ic,fn:=gi.frame.fn,pos:=gi.frame.place,act:=.ofEvent (j3 (.acquire (dV p.Wg)))}]) ic idx:=λe=>by
    obtain⟨op,ho,o0⟩:=Ts.1 e;rw[<- o0];exact(Zh ho).app _
   rcases hx with hx|rfl|⟨r,ry,hle⟩
   ·exfalso;have aki:i<gs.size:=by
     obtain⟨op,ho,o0⟩:=Ts.1 Kh;rw[<- o0];exact h.core.ti.gs op (XR ho)
    have gM:(K i).cnt=1:=by cases lc:K i<;>rw[lc]at hx<;>first|rfl|cases hx
    have hle:(K i).cnt<=sumTo gs.size λi=>(K i).cnt:=WF (f:=λi=>(K i).cnt) aki;omega
   ·exact own Kh
   ·exact aez ry.act ry.heard akx ⟨rfl,rfl⟩ hd (OE Kh ry.g hle)
  ·simp only[TJ,SL,S4,or_false]at au;subst au;cases hx
theorem Rest.got{Wg:Nat}(hr:Rest Wg t K ic (some .got)){es:Array Uo}{fn:TO}{pos:String}{K':Nat->GS}:Rest Wg (t++Ta ic fn pos es) K' ic (some .got):=by
 refine hr.app (λidx a ha hx=> .inr (Knows.app _ hx)) (λidx a _ ⟨op,au,cY,_⟩ _=> .inr (.inr ?_));obtain⟨e,_,rfl⟩:=TL au;exact Zh cY
theorem Inv.amM(h:Inv P n0 W0 V gs w t K Im ic (some p) st)(aH:p.recv=true){n:Nat}{gi:SH}(aM:gs[ic]?=some gi)(hK:K ic=.look n)(jD:HI P Im p.c (UT t ic) gi):gz P n0 W0 V gs w sl t K Im ic (some p) st ic:=by
 obtain⟨s,hs,gh,iH,hm⟩:=h.mode aH;obtain⟨m1,m2,m3,m4⟩:=hm.Og (.inl (by rw[hK];rfl));obtain⟨hd,bK,b,o,x,g',kC,aQ,n',dx⟩:=jD;have fz:Sat ((K ic).view Im) w:=by have:=h.core.sat ic iH;rwa [show bF V Im K ic=(K ic).view Im by simp[bF];omega]at this
 have JV:=fz.ab b o x (by rw[hK];exact kC);have hb:=fz.CP (show ((K ic).view Im).ab b o=some x by rw[hK];exact kC);have nD:∀e∈(#[⟨.cell ⟨b,o,none⟩,false,false⟩]:Array Uo),e=⟨.cell ⟨b,o,none⟩,false,false⟩:=λe he=>by simpa using he
 have cL:=h.blind gh;refine h.tC aH (k':=.close n') (s':=.got) gh aM (aQ w JV) (by rw[hd];exact dx) (by rw[hK];exact amv Im) (λ_=>rfl) rfl (λj hj=>by rw[hK]at hj;cases hj) (.inl rfl) (λe he y hy=> .inr (.inr ?_)) (λe he=> ?_) (λe he a=> ?_) rfl (λ_ _ _=>rfl) rfl rfl rfl
  ?_ (.inl m1) ?_ (x_ iH (by rw[hK];exact .inl (by simp[GS.c_])))
 ·rw[nD e he]at hy;cases hy;refine⟨λdQ=> ?_,.inr (by rw[hK];show Im b o≠none;rw[kC];simp),rfl⟩;have e1:b=p.Wg:=dQ;have:=cL.2.2.2 o;rw[hK]at this;have e2:Im p.Wg o=none:=this;rw[<- e1,kC]at e2;cases e2
 ·rw[nD e he];exact hb
 ·rw[nD e he];simp[Tt]
 ·unfold Mode;have e1:sumTo gs.size (λi=>(upd K ic (.close n') i).cnt)=0:=by rw[lz K (.close n') GS.cnt (by rw[hK];rfl)];exact m4
  have e2:sumTo gs.size (λi=>(upd K ic (.close n') i).late)=0:=by rw[lz K (.close n') GS.late (by rw[hK];rfl)];exact m3
  simp only[e1,e2,bw];exact .inr (.inr (.inr (.inr (.inr (.inl ⟨m1,trivial,trivial,trivial,.inr rfl⟩)))))
 ·have hr:Rest p.Wg t K ic st:=h.out.2.2.1;rw[hs,m2]at hr;exact hr.got
theorem Inv.agk(h:Inv P n0 W0 V gs w t K Im ic (some p) st)(aH:p.recv=true){n:Nat}{gi:SH}(aM:gs[ic]?=some gi)(hK:K ic=.close n)(jD:HG P p.c (UT t ic) gi):gz P n0 W0 V gs w sl t K Im ic (some p) st ic:=by
 obtain⟨s,hs,gh,iH,hm⟩:=h.mode aH;obtain⟨⟨nn,m1⟩,m2,m3,m4⟩:=hm.Og (.inr (by rw[hK];rfl));obtain⟨hd,bK,KA,g',aQ,q,kF⟩:=jD;have lN:=aQ w nn m1;have eB:∀e∈(#[⟨.obj p.c,false,true⟩,⟨.obj p.c,true,true⟩]:Array Uo),e=⟨.obj p.c,false,true⟩\/e=⟨.obj p.c,true,true⟩:=λe he=>by simpa using he
 have KE:∀j,0<j->j<gs.size->j≠ic->(K j).idx=none:=λj _ hj _=>by
  have hle:(K j).cnt<=sumTo gs.size λi=>(K i).cnt:=WF (f:=λi=>(K i).cnt) hj;exact GS.aah (by omega)
 have Kj:g'.status=.running\/g'.status=.finished:=ZL kF;have rc:p.c≠p.Wg:=h.phase.2.2.1;have JW:=h.low.1;have eu:Ta ic gi.frame.fn gi.frame.place #[⟨.obj p.c,false,true⟩,⟨.obj p.c,true,true⟩]=#[{g:=ic,fn:=gi.frame.fn,pos:=gi.frame.place,act:=.ofEvent ⟨.obj p.c,false,true⟩},{g:=ic,fn:=gi.frame.fn,pos:=gi.frame.place,act:=.close p.c}]:=by simp[Ta,Tt]
 have g1:=qT (t:=t) (show (#[({g:=ic,fn:=gi.frame.fn,pos:=gi.frame.place,act:=.ofEvent ⟨.obj p.c,false,true⟩}:Wd),{g:=ic,fn:=gi.frame.fn,pos:=gi.frame.place,act:=.close p.c}]:Uk)[1]?=some _ from rfl);have nH:∀op∈(#[({g:=ic,fn:=gi.frame.fn,pos:=gi.frame.place,act:=.ofEvent ⟨.obj p.c,false,true⟩}:Wd),{g:=ic,fn:=gi.frame.fn,pos:=gi.frame.place,act:=.close p.c}]:Uk),still op.act:=by
  intro op au;simp only[TJ,SL,S4,or_false]at au;rcases au with rfl|rfl<;>exact⟨by simp[Tt],by simp[Tt]⟩
 have Ra:∃n,({w with heap:=w.heap.setIfInBounds p.c (.chan 0 #[] true nn nn false)}:Tq).heap[p.c]?=some (.chan 0 #[] true n n false):=⟨nn,by simp[JW]⟩;refine h.tC aH (k':=.gone q) (s':=.shut (t.size+1)) gh aM lN (by rw[hd];exact kF) (by rw[hK];exact Gj _) (λ_=>rfl) rfl (λj hj=>by rw[hK]at hj;cases hj) (.inl rfl) (λe he x hx=> .inl ?_) (λe he=> ?_) (λe he a=> ?_) (by simp) (λb hb _=>by simp[Wq,Ne.symm hb]) rfl rfl rfl
  ?_ (.inr ⟨KE,λg hg=>an1 gh hg KA Kj Ra⟩) ?_ (x_ iH (by rw[hK];exact .inl (by simp[GS.c_])))
 ·rcases eB e he with rfl|rfl
  ·cases hx;exact⟨rfl,rfl⟩
  ·cases hx
 ·rcases eB e he with rfl|rfl
  ·exact JW
  ·exact JW
 ·rcases eB e he with rfl|rfl<;>simp[Tt]
 ·unfold Mode;have e1:sumTo gs.size (λi=>(upd K ic (.gone q) i).cnt)=0:=by rw[lz K (.gone q) GS.cnt (by rw[hK];rfl)];exact m4
  have e2:sumTo gs.size (λi=>(upd K ic (.gone q) i).late)=0:=by rw[lz K (.gone q) GS.late (by rw[hK];rfl)];exact m3
  simp only[e1,e2,bw];obtain⟨n,hn⟩:=Ra;refine .inr (.inr (.inr (.inr (.inr (.inr ⟨⟨t.size+1,n,rfl,?_,?_,hn⟩,trivial,trivial,rfl⟩)))))
  ·rw[eu];exact ai_ g1
  ·rw[eu];exact heard_new (k:=1) rfl rfl (by rw[tZ nH (by simp)];exact hd)
 ·have hr:Rest p.Wg t K ic st:=h.out.2.2.1;rw[hs,m2]at hr;rw[eu];refine hr.app (λidx a ha hx=> .inr (.inr (Knows.hb_new hx (by omega) g1 rfl))) (λidx a hi ⟨op,au,cY,_⟩ _=> .inr (.inr ?_));have hlt:idx<t.size+2:=by have:=TG cY;simpa using this
  have o0:op.g=ic:=by
   simp only[TJ,SL,S4,or_false]at au;rcases au with rfl|rfl<;>rfl
  exact OE (g:=ic) (by simp[WC,cY,o0]) (by simp[WC,g1]) (by omega)
structure D5 (P:SJ)(n0:Nat)(W0:Tq)(V:View)(gs:Array SH)(w:Tq)(sl:Option (Nat×Nat))(t:Uk)(Im:cx)(ic:Nat)(p:Phase)(st:Option eo)(g:SH)(i:Nat):Prop where
 intro::
 met:∃gs' w' ops K' j sp S v kT Ow,runT P (crowd gs w sl) i=(.next (crowd gs' w' sl),ops)/\gs'.size=gs.size/\kx gs' (T4 g (.tuple #[v,.bool true]))/\p.Ss[j]?=some (sp::S)/\sp v kT Ow/\(∀b,V.own b≠none->Ow b=none)/\(∀b o,V.own b≠none->kT b o≠none->V.ab b o≠none)/\
  (∃w,Sat V w/\(∀b o x,kT b o=some x->w.cell? ⟨b,o,none⟩=some x)/\∀b x,Ow b=some x->w.heap[b]?=some x)/\
  Inv P n0 W0 (nK V kT Ow (.recv p.c p.Wg (p.Ss.set j S))) gs' w' (t++ops) K' Im ic (some {p with Ss:=p.Ss.set j S}) st
theorem Inv.ap9(h:Inv P n0 W0 V gs w t K Im ic (some p) st)(aH:p.recv=true)(iD:V.deaf=0){g:SH}(hm:nV gs g p.c){i j:Nat}{gi:SH}{hh h':Ht}{Vi V₁:View}{c Wg:Nat}{sp:Spec}{S:List Spec}{v z:SP}{B:Nat->Bool}(hi:0<i)(aM:gs[i]?=some gi)
  (hK:K i=.work j hh Vi) (hg:dW Vi V₁) (hr:V₁.role=.work c Wg (sp::S)) (hd:V₁.deaf=0) (aQ:stepG P false gi w=.comm gi #[scase c v z] true .send w #[])
  (xO:sp v V₁.ab (lU B V₁)) (hk:lD P h' (lR B V₁ (.work c Wg S)) (T4 gi undef)):D5 P n0 W0 V gs w sl t Im ic p st g i:=by
 have hlt:i<gs.size:=(SU.1 aM).1;have dh:=h.is i gi hi aM;simp only[hK,GS.is]at dh;obtain⟨bx,_,S',hS,jc⟩:=dh;rw[hg.role,jc]at hr;cases hr;have gM:(K i).cnt=1:=by rw[hK];rfl
 obtain⟨⟨n,gE⟩,lq⟩:=h.counted hi hlt gM;have eS:(i==0)=false:=by simp;omega
 obtain⟨g0,z0,h0,lh,iG,mM⟩:=hm;have hp:partners (gs.setIfInBounds i ph) p.c false=[(0,0)]:=by
  have EK:(gs.setIfInBounds i ph)[0]?=some (parked g0 #[rcase p.c z0] (.recv true)):=by rw[SV (by omega)];exact h0
  rw[partners_one EK (λm x hm hx=> ?_),offersAt_parked_recv]
  ·simp
  ·rcases X7 gs i m x hx with⟨_,rfl⟩|⟨_,jE⟩
   ·exact Zr _ _
   ·exact abo (h.is m x (by omega) jE) _
 have bK:=crowd_send_meets (P:=P) (sl:=sl) (i:=i) aM (by rw[eS];exact aQ) gE (by omega) h0 hp;rw[Yw,ah']at bK;have mj:(K i).view Im=Vi:=by rw[hK];rfl
 have aV:((gs.setIfInBounds 0 (T4 g0 (recvd true v true))).setIfInBounds i (T4 gi undef)).size=gs.size:=by simp
 have aT:UT t i=0:=by rw[bx,<- hg.deaf,hd]
 have CA:Sat V₁ w:=by
  have:=h.core.sat i hlt;rw[show bF V Im K i=(K i).view Im by simp[bF];omega,mj]at this;exact hg.sat w this
 have KZ:Sat V w:=by have:=h.core.sat 0 h.pos;rwa [show bF V Im K 0=V by simp[bF]]at this
 have uq:=h.met (gs':=(gs.setIfInBounds 0 (T4 g0 (recvd true v true))).setIfInBounds i (T4 gi undef)) (w':=w.setChan p.c 0 #[] false (n+1) (n+1) false) (gi:=gi) (h':=h') (V₁:=V₁) (S:=S) (sp:=sp) (B:=B) aH iD hi hlt (by rw[hK];rfl) (by rw[mj];exact hg) (by rw[hg.role,jc]) hd aT hS hk aV
  (by rw[S_ (by simpa using hlt)]) (λm hm iI=>by rw[SV (Ne.symm hm),SV (by omega)])
  (u:=Ta i gi.frame.fn gi.frame.place #[]++#[{g:=i,fn:=gi.frame.fn,pos:=gi.frame.place,act:=.send p.c n},{g:=0,fn:=g0.frame.fn,pos:=g0.frame.place,act:=.recv p.c n 0},
    {g:=i,fn:=gi.frame.fn,pos:=gi.frame.place,act:=.sendDone p.c n},{g:=0,fn:=g0.frame.fn,pos:=g0.frame.place,act:=.recvDone p.c n}]) (s:=n) (by simp only[Ta,Y4,if_true,Xo];rfl) ⟨rfl,rfl⟩ ⟨rfl,rfl⟩ ⟨rfl,rfl⟩ ⟨rfl,rfl⟩
  (by simp[Wi]) (λb hb=>by simp[Wi,Wq,Ne.symm hb]) ⟨n+1,by simp[Wi,h.low.1]⟩ rfl rfl rfl
 refine⟨_,_,_,_,j,sp,S,v,V₁.ab,lU B V₁,bK,aV,⟨T4 g0 (recvd true v true),?_,rfl,?_,iG,mM⟩,hS,xO,uq.1,uq.2.1,⟨w,KZ,CA.ab,λb x e=> ?_⟩,uq.2.2⟩
 ·rw[SV (by omega),S_ h.pos]
 ·simp only[T4,lh];rfl
 ·unfold lU at e;split at e
  ·exact CA.own b x e
  ·cases e
theorem Inv.ape(h:Inv P n0 W0 V gs w t K Im ic (some p) st)(aH:p.recv=true)(iD:V.deaf=0){g:SH}{z:SP}(hm:kx gs g)(aQ:stepG P true g w=.comm g #[rcase p.c z] true (.recv true) w #[])
  (hw:∃i j h' V₁ V₂ g1 v z1,0<i/\i<gs.size/\K i=.nQ j h' V₁ V₂ g1 v z1):D5 P n0 W0 V gs w sl t Im ic p st g 0:=by
 obtain⟨g0,h0,hf0,lh,iG,mM⟩:=hm;have lq:stepG P (0==0) g0 w=.comm g #[rcase p.c z] true (.recv true) w #[]:=by rw[<- aQ];exact Xd lh iG mM w
 obtain⟨i0,j0,a0,a1,a2,a3,a4,a5,b0,b1,b2⟩:=hw;have ajN:(K i0).cnt=1:=by rw[b2];rfl
 obtain⟨⟨n,gE⟩,FR⟩:=h.counted b0 b1 ajN;have te:gs[i0]?=some gs[i0]:=SK b1;have fD:∀j k,(j,k)∈partners (gs.setIfInBounds 0 ph) p.c true->k=0/\j≠0/\∃gj vj zj M8,gs[j]?=some (parked gj #[scase p.c vj zj] M8):=by
  intro j k hjk;obtain⟨x,hx,hk⟩:=mem_partners.1 hjk;rcases X7 gs 0 j x hx with⟨_,rfl⟩|⟨hj0,jE⟩
  ·rw[Zr]at hk;cases hk
  ·rcases GS.runs (h.is j x (by omega) jE)with hr|⟨hf,_⟩|⟨q,h',V1,V2,g1,v,z1,e⟩|⟨_,hb,ho⟩
   ·rw[UW (by rw[hr];simp)]at hk;cases hk
   ·rw[UW (by rw[hf];simp)]at hk;cases hk
   ·have:=h.is j x (by omega) jE;simp only[e,GS.is]at this;obtain⟨_,_,rfl,_⟩:=this;rw[ZK]at hk;simp at hk;exact⟨hk,hj0,g1,v,z1,.send,jE⟩
   ·have:offersAt x p.c true=[]:=(by unfold offersAt;simp[hb,ho]);rw[this]at hk;cases hk
 have aE:partners (gs.setIfInBounds 0 ph) p.c true≠[]:=by
  intro e;have eB:(i0,0)∈partners (gs.setIfInBounds 0 ph) p.c true:=by
   have:=h.is i0 _ b0 te;simp only[b2,GS.is]at this;obtain⟨_,_,jb,_⟩:=this;refine mem_partners.2 ⟨gs[i0],by rw[SV (by omega)];exact te,?_⟩;rw[jb,ZK];simp
  rw[e]at eB;cases eB
 obtain⟨i,gj,vj,zj,M8,d,eS,aM,bK⟩:=crowd_recv_meets_some (P:=P) (sl:=sl) h0 lq gE aE fD;have hi:0<i:=by omega
 have hlt:i<gs.size:=(SU.1 aM).1;obtain⟨j,h',V₁,V₂,g1,v,z1,hK⟩:∃j h' V₁ V₂ g1 v z1,K i=.nQ j h' V₁ V₂ g1 v z1:=by
  rcases GS.runs (h.is i _ hi aM)with hr|⟨hf,_⟩|x|⟨_,_,ho⟩
  ·cases hr
  ·cases hf
  ·exact x
  ·cases ho
 have dh:=h.is i _ hi aM;simp only[hK,GS.is]at dh;obtain⟨bx,hd,jb,hk,sp,S,B,hS,jc,xO,zd⟩:=dh;have efr:gj.frame=g1.frame/\gj.callers=g1.callers/\gj.dying=g1.dying/\vj=v/\zj=z1/\M8=.send:=by
  simp only[parked,ah_,Tn,U0]at jb;obtain⟨e1,e2,_,e3,e4,e5⟩:=jb;simp[scase]at e4;exact⟨e1,e2,e3,e4.1,e4.2,e5⟩
 obtain⟨e1,e2,e3,rfl,rfl,rfl⟩:=efr;have esv:T4 gj undef=T4 g1 undef:=by simp[T4,e1,e2,e3]
 rw[ah',Yw,esv]at bK;subst zd;have mj:(K i).view Im=V₁:=by rw[hK];rfl
 have aV:((gs.setIfInBounds i (T4 g1 undef)).setIfInBounds 0 (T4 g (recvd true vj true))).size=gs.size:=by simp
 have CA:Sat V₁ w:=by
  have:=h.core.sat i hlt;rwa [show bF V Im K i=(K i).view Im by simp[bF];omega,mj]at this
 have KZ:Sat V w:=by have:=h.core.sat 0 h.pos;rwa [show bF V Im K 0=V by simp[bF]]at this
 have uq:=h.met (gs':=(gs.setIfInBounds i (T4 g1 undef)).setIfInBounds 0 (T4 g (recvd true vj true))) (w':=(w.at d).setChan p.c 0 #[] false (n+1) (n+1) false) (gi:=g1) (h':=h') (V₁:=V₁) (S:=S) (sp:=sp) (B:=B) aH iD hi hlt (by rw[hK];rfl) (by rw[mj];exact dW.refl _) jc hd bx hS hk aV
  (by rw[SV (by omega),S_ hlt]) (λm hm iI=>by rw[SV (by omega),SV (Ne.symm hm)])
  (u:=Ta 0 g0.frame.fn g0.frame.place #[]++#[{g:=i,fn:=gj.frame.fn,pos:=gj.frame.place,act:=.send p.c n},{g:=0,fn:=g.frame.fn,pos:=g.frame.place,act:=.recv p.c n 0},
    {g:=i,fn:=gj.frame.fn,pos:=gj.frame.place,act:=.sendDone p.c n},{g:=0,fn:=g.frame.fn,pos:=g.frame.place,act:=.recvDone p.c n}]) (s:=n) (by simp only[Ta,Y4,if_true,Xo];rfl) ⟨rfl,rfl⟩ ⟨rfl,rfl⟩ ⟨rfl,rfl⟩ ⟨rfl,rfl⟩
  (by simp[Wi,World.at]) (λb hb=>by simp[Wi,World.at,Wq,Ne.symm hb]) ⟨n+1,by simp[Wi,World.at,h.low.1]⟩ rfl rfl rfl
 refine⟨_,_,_,_,j,sp,S,vj,V₁.ab,lU B V₁,bK,aV,⟨T4 g (recvd true vj true),?_,rfl,rfl,rfl,rfl⟩,hS,xO,uq.1,uq.2.1,⟨w,KZ,CA.ab,λb x e=> ?_⟩,uq.2.2⟩
 ·rw[S_ (by simpa using h.pos)]
 ·unfold lU at e;split at e
  ·exact CA.own b x e
  ·cases e
end
section
variable {P:SJ}{n0:Nat}{W0:Tq}{V:View}{gs gs':Array SH}{w w':Tq}{sl:Option (Nat×Nat)}{t:Uk}{K:Nat->GS}{Im:cx}{ic:Nat}{ph:Option Phase}{p:Phase}{st st':Option eo}
theorem Inv.tD(h:Inv P n0 W0 V gs w t K Im ic (some p) st){i n:Nat}{gi:SH}{Stop:Nat->SH->Prop}{mk:Nat->GS}(hi:0<i)(aM:gs[i]?=some gi)(hK:K i=mk n)(dx:cQ P Stop n (UT t i) gi)
  (rl:∀n d g,cQ P Stop n d g->(mk n).is P p.c p.Wg Im p.Ss d g) (dQ:∀n m,(mk n).shape=(mk m).shape) (Lc:∀n m,(mk n).view Im=(mk m).view Im) (KX:∀n,qF (mk n).c_ (mk (n+1)).c_) (zL:∀d g,Stop d g->g.status=.running)
  (hgo:Stop (UT t i) gi->gz P n0 W0 V gs w sl t K Im ic (some p) st i):gz P n0 W0 V gs w sl t K Im ic (some p) st i:=by
 cases n with
 |zero=>exact hgo dx
 |succ n=>
  rcases dx with hs|⟨hr,g',es,hm,aQ,hs⟩
  ·exact hgo hs
  ·exact h.slip (k':=mk n) hi aM (aQ w) hm (rl _ _ _ hs) (λx=>by rw[cQ.running zL hs]at x;cases x) (by rw[hK];exact dQ _ _) (by rw[hK];exact Lc _ _) (λ_=>cQ.running zL hs) (by rw[hK];exact KX n)
theorem Inv.acv(h:Inv P n0 W0 V gs w t K Im ic (some p) st){i n:Nat}{gi:SH}{Stop:Nat->SH->Prop}{mk:Nat->GS}(hi:0<i)(aM:gs[i]?=some gi)(hK:K i=mk n)(hW:∃x y,WgAt P p.Wg w x y)(dx:gU P p.Wg Stop n (UT t i) gi)
  (rl:∀n d g,gU P p.Wg Stop n d g->(mk n).is P p.c p.Wg Im p.Ss d g) (dQ:∀n m,(mk n).shape=(mk m).shape) (Lc:∀n m,(mk n).view Im=(mk m).view Im) (KX:∀n,qF (mk n).c_ (mk (n+1)).c_) (zL:∀d g,Stop d g->g.status=.running)
  (hgo:Stop (UT t i) gi->gz P n0 W0 V gs w sl t K Im ic (some p) st i):gz P n0 W0 V gs w sl t K Im ic (some p) st i:=by
 cases n with
 |zero=>exact hgo dx
 |succ n=>
  rcases dx with hs|⟨hr,g',es,hm,aQ,hs⟩
  ·exact hgo hs
  ·exact h.slip (k':=mk n) hi aM (aQ w _ _ hW.choose_spec.choose_spec) hm (rl _ _ _ hs) (λx=>by rw[gU.running zL hs]at x;cases x) (by rw[hK];exact dQ _ _) (by rw[hK];exact Lc _ _) (λ_=>gU.running zL hs) (by rw[hK];exact KX n)
theorem Inv.other(h:Inv P n0 W0 V gs w t K Im ic ph st){g:SH}(oY:kx gs g\/∃p,ph=some p/\p.recv=true/\V.deaf=0/\nV gs g p.c){i:Nat}{gi:SH}(hi:0<i)(aM:gs[i]?=some gi)(bK:gi.status=.running):
  gz P n0 W0 V gs w sl t K Im ic ph st i\/∃p,ph=some p/\D5 P n0 W0 V gs w sl t Im ic p st g i/\nV gs g p.c:=by
 have hlt:i<gs.size:=(SU.1 aM).1;have dh:=h.out.1 i gi hi aM;have gone:∀q,K i=.gone q->Y_ P q (UT t i) gi->gz P n0 W0 V gs w sl t K Im ic ph st i:=by
  intro q hK hq;cases q with
  |zero=>rw[hq.1]at bK;cases bK
  |succ q=>
   rcases hq with⟨hf,_⟩|⟨_,g',es,hm,aQ,s8⟩
   ·rw[hf]at bK;cases bK
   ·refine h.slip (k':=.gone q) hi aM (aQ w) hm ?_ (λx=>by rcases s8.status with e|e<;>rw[e]at x<;>cases x) (by rw[hK];rfl) (by rw[hK];rfl) (λx=>by rw[hK]at x;rcases x with x|x<;>cases x) (by rw[hK];exact .inr ⟨rfl,.inr ⟨rfl,Uu _⟩⟩);cases ph with
    |none=>exact⟨q,rfl,s8⟩
    |some p=>exact s8
 cases ph with
 |none=>
  obtain⟨q,hK,hq⟩:=dh;exact .inl (gone q hK hq)
 |some p=>
  have e_:(K i).is P p.c p.Wg Im p.Ss (UT t i) gi:=dh;have qa:(K i).idx=none->(∀q,K i≠ .gone q)->p.recv=true:=λh1 h2=>by
   cases aH:p.recv with
   |true=>rfl
   |false=>
    have hx:=h.phase.2.2.2.2.2.2.2.2.2;rw[if_neg (by rw[aH];simp)]at hx;rcases hx.2.2.2.1 i hi hlt with x|⟨q,x⟩
    ·rw[h1]at x;cases x
    ·exact absurd x (h2 q)
  cases hK:K i with
  |gone q=>rw[hK]at e_;exact .inl (gone q hK e_)
  |nQ j h' V1 V2 g0 v z=>
   rw[hK]at e_;obtain⟨_,_,rfl,_⟩:=e_;cases bK
  |work j hh Vi=>
   rw[hK]at e_;obtain⟨hd,Lf,S,hS,jc⟩:=e_;have mj:bF V Im K i=Vi:=(by simp[bF,hK,GS.view];omega);have fz:Sat Vi w:=(by have:=h.core.sat i hlt;rwa [mj]at this);cases Lf with
   |step G' W' E' V' hs hg h1 h2 h3=>
    exact .inl (h.adv hi aM hK (h1 w (hg.sat w fz)) (dc.rM hg (h2 w (hg.sat w fz))) (h3 w (hg.sat w fz)) (.mk _ w))
   |send c Wg sp S1 v z B hs hg hr dg ho h1 h2 h3=>
    have er:m8.work p.c p.Wg S=.work c Wg (sp::S1):=(by rw[<- jc,<- hg.role,hr]);cases er;rcases oY with hm|⟨p',zG,aH,iD,hm⟩
    ·exact .inl (h.ar0 hm hi aM hK hg hr dg (h1 w (hg.sat w fz)) h2 h3)
    ·cases zG;exact .inr ⟨p,rfl,h.ap9 aH iD hm hi aM hK hg hr dg (h1 w (hg.sat w fz)) h2 h3,hm⟩
   |done c Wg hg hr dg h1=>
    have er:m8.work p.c p.Wg S=.work c Wg []:=(by rw[<- jc,<- hg.role,hr]);cases er;refine .inl (h.release ?_ hi aM hK hg hr dg h1);cases aH:p.recv with
    |true=>rfl
    |false=>
     have hx:=h.phase.2.2.2.2.2.2.2.2.2;rw[if_neg (by rw[aH];simp)]at hx;exact absurd rfl (hx.2.2.2.2.1 [] (Tf hS))
   |slip c Wg hs hg hr h1 h3=>
    have er:m8.work p.c p.Wg S=.work c Wg []:=(by rw[<- jc,<- hg.role,hr]);cases er;have aH:p.recv=true:=by
     cases aH:p.recv with
     |true=>rfl
     |false=>
      have hx:=h.phase.2.2.2.2.2.2.2.2.2;rw[if_neg (by rw[aH];simp)]at hx;exact absurd rfl (hx.2.2.2.2.1 [] (Tf hS))
    obtain⟨s,hW⟩:=h.agq aH hlt (by rw[hK];rfl);exact .inl (h.adv hi aM hK (h1 w s (hg.sat w fz) hW) (dc.rM hg (dc.idle (hg.sat w fz))) h3 (AL.mk (λ_=>_) w))
  |add n=>
   rw[hK]at e_;have aH:=qa (by rw[hK];rfl) (λq=>by rw[hK];simp);exact .inl (h.tD (mk:=.add) hi aM hK e_ (λ_ _ _ x=>x) (λ_ _=>rfl) (λ_ _=>rfl) (λn=> .inr ⟨rfl,.inr ⟨rfl,Uu _⟩⟩) (λ_ _ x=>x.2.1) (λhs=>h.aeD aH hi aM hK hs))
  |load n=>
   rw[hK]at e_;have aH:=qa (by rw[hK];rfl) (λq=>by rw[hK];simp);exact .inl (h.tD (mk:=.load) hi aM hK e_ (λ_ _ _ x=>x) (λ_ _=>rfl) (λ_ _=>rfl) (λn=> .inr ⟨rfl,.inr ⟨rfl,Uu _⟩⟩) (λ_ _ x=>x.2.1) (λhs=>h.amL aH hi aM hK hs))
  |store n=>
   rw[hK]at e_;have aH:=qa (by rw[hK];rfl) (λq=>by rw[hK];simp);exact .inl (h.tD (mk:=.store) hi aM hK e_ (λ_ _ _ x=>x) (λ_ _=>rfl) (λ_ _=>rfl) (λn=> .inr ⟨rfl,.inr ⟨rfl,Uu _⟩⟩) (λ_ _ x=>x.2.1) (λhs=>h.aqS aH hi aM hK hs))
  |mw n=>
   rw[hK]at e_;have aH:=qa (by rw[hK];rfl) (λq=>by rw[hK];simp);exact .inl (h.tD (mk:=.mw) hi aM hK e_ (λ_ _ _ x=>x) (λ_ _=>rfl) (λ_ _=>rfl) (λn=> .inr ⟨rfl,.inr ⟨rfl,Uu _⟩⟩) (λ_ _ x=>x.2.1) (λhs=>h.ap8 aH hi aM hK hs))
  |head k n=>
   rw[hK]at e_;have aH:=qa (by rw[hK];rfl) (λq=>by rw[hK];simp);have fL:i=ic:=h.rT hi (by rw[hK];rfl);exact .inl (h.tD (mk:=.head k) hi aM hK e_ (λ_ _ _ x=>x) (λ_ _=>rfl) (λ_ _=>rfl) (λn=> .inr ⟨rfl,.inr ⟨rfl,Uu _⟩⟩) (λ_ _ x=>Rj x) (λhs=>by subst fL;exact h.aj8 aH aM hK hs))
  |l9 v n=>
   rw[hK]at e_;have aH:=qa (by rw[hK];rfl) (λq=>by rw[hK];simp);have fL:i=ic:=h.rT hi (by rw[hK];rfl);exact .inl (h.tD (mk:=.l9 v) hi aM hK e_ (λ_ _ _ x=>x) (λ_ _=>rfl) (λ_ _=>rfl) (λn=> .inr ⟨rfl,.inr ⟨rfl,Uu _⟩⟩) (λ_ _ x=>x.2.1) (λhs=>by subst fL;exact h.agd aH aM hK hs))
  |said n=>
   rw[hK]at e_;have aH:=qa (by rw[hK];rfl) (λq=>by rw[hK];simp);have fL:i=ic:=h.rT hi (by rw[hK];rfl);exact .inl (h.acv (mk:=.said) hi aM hK (h.N5 aH (n:=n) (.inr (by rw[<- fL];exact hK))) e_ (λ_ _ _ x=>x) (λ_ _=>rfl) (λ_ _=>rfl) (λn=> .inr ⟨rfl,.inr ⟨rfl,Uu _⟩⟩) (λ_ _ x=>x.2.1) (λhs=>by subst fL;exact h.apO aH aM hK hs))
  |gX n=>
   rw[hK]at e_;have aH:=qa (by rw[hK];rfl) (λq=>by rw[hK];simp);have fL:i=ic:=h.rT hi (by rw[hK];rfl);rcases e_ with e_|⟨_,g1,rfl,_⟩
   ·exact .inl (h.tD (mk:=.gX) hi aM hK e_ (λ_ _ _ x=> .inl x) (λ_ _=>rfl) (λ_ _=>rfl) (λn=> .inr ⟨rfl,.inr ⟨rfl,Uu _⟩⟩) (λ_ _ x=>x.2.1) (λhs=>by subst fL;exact h.agr aH aM hK hs))
   ·cases bK
  |last n=>
   rw[hK]at e_;have aH:=qa (by rw[hK];rfl) (λq=>by rw[hK];simp);have fL:i=ic:=h.rT hi (by rw[hK];rfl);exact .inl (h.tD (mk:=.last) hi aM hK e_ (λ_ _ _ x=>x) (λ_ _=>rfl) (λ_ _=>rfl) (λn=> .inr ⟨rfl,.inr ⟨rfl,Uu _⟩⟩) (λ_ _ x=>x.2.1) (λhs=>by subst fL;exact h.al3 aH aM hK hs))
  |acq n=>
   rw[hK]at e_;have aH:=qa (by rw[hK];rfl) (λq=>by rw[hK];simp);have fL:i=ic:=h.rT hi (by rw[hK];rfl);exact .inl (h.acv (mk:=.acq) hi aM hK (h.N5 aH (n:=n) (.inl (by rw[<- fL];exact hK))) e_ (λ_ _ _ x=>x) (λ_ _=>rfl) (λ_ _=>rfl) (λn=> .inr ⟨rfl,.inr ⟨rfl,Uu _⟩⟩) (λ_ _ x=>x.2.1) (λhs=>by subst fL;exact h.aey aH aM hK hs))
  |look n=>
   rw[hK]at e_;have aH:=qa (by rw[hK];rfl) (λq=>by rw[hK];simp);have fL:i=ic:=h.rT hi (by rw[hK];rfl);exact .inl (h.tD (mk:=.look) hi aM hK e_ (λ_ _ _ x=>x) (λ_ _=>rfl) (λ_ _=>rfl) (λn=> .inr ⟨rfl,.inr ⟨rfl,Uu _⟩⟩) (λ_ _ x=>x.2.1) (λhs=>by subst fL;exact h.amM aH aM hK hs))
  |close n=>
   rw[hK]at e_;have aH:=qa (by rw[hK];rfl) (λq=>by rw[hK];simp);have fL:i=ic:=h.rT hi (by rw[hK];rfl);exact .inl (h.tD (mk:=.close) hi aM hK e_ (λ_ _ _ x=>x) (λ_ _=>rfl) (λ_ _=>rfl) (λn=> .inr ⟨rfl,.inr ⟨rfl,Uu _⟩⟩) (λ_ _ x=>x.2.1) (λhs=>by subst fL;exact h.agk aH aM hK hs))
theorem Inv.awake(h:Inv P n0 W0 V gs w t K Im ic ph st){g:SH}(oY:kx gs g\/∃p,ph=some p/\p.recv=true/\V.deaf=0/\nV gs g p.c):∀x∈gs,awake x:=by
 intro x hx;obtain⟨i,hi⟩:=YF.1 hx;rcases UZ i with rfl|eS
 ·rcases oY with⟨g0,h0,h1,_⟩|⟨p,_,_,_,g0,z,h0,_⟩
  ·rw[hi]at h0;cases h0;intro s;rw[h1];simp
  ·rw[hi]at h0;cases h0;intro s;simp[parked]
 ·have dh:=h.out.1 i x eS hi;intro s;cases ph with
  |none=>
   obtain⟨q,_,hq⟩:=dh;rcases hq.status with e|e<;>rw[e]<;>simp
  |some p=>
   rcases GS.runs (show (K i).is P p.c p.Wg Im p.Ss (UT t i) x from dh)with e|⟨e,_⟩|⟨j,h',V1,V2,g1,v,z,e⟩|⟨_,e,_⟩
   ·rw[e];simp
   ·rw[e];simp
   ·have e_:(K i).is P p.c p.Wg Im p.Ss (UT t i) x:=dh;rw[e]at e_;obtain⟨_,_,rfl,_⟩:=e_;simp[parked]
   ·rw[e];simp
end
def Ok (P:SJ)(Post:SP->Tq->Prop)(m:ar')(t:Uk):Prop:=
 ∃M last o w' t',runNT P (M+1) m t=(.ended o w',t')/\runN P M m=.next last/\step P last=.ended o w'/\WZ P Post last o w' t'
section
variable {P:SJ}{Post:SP->Tq->Prop}
theorem Ok.step{m m':ar'}{t:Uk}{ops:Array Wd}(hs:stepT P m=(.next m',ops))(h:Ok P Post m' (t++ops)):Ok P Post m t:=by
 obtain⟨M,last,o,w',t',h1,h2,h3,h4⟩:=h;refine⟨M+1,last,o,w',t',?_,?_,h3,h4⟩
 ·rw[runNT,hs];exact h1
 ·have:ag2 P m=.next m':=by unfold ag2;rw[hs]
  rw[runN,this];exact h2
theorem Ok.end{m:ar'}{t:Uk}{o:Outcome}{w':Tq}{ops:Array Wd}(hs:stepT P m=(.ended o w',ops))(h:WZ P Post m o w' (t++ops)):Ok P Post m t:=by
 refine⟨0,m,o,w',t++ops,?_,rfl,?_,h⟩
 ·simp[runNT,hs]
 ·unfold ag2;rw[hs]
end
section
variable {P:SJ}{n0:Nat}{W0:Tq}{V:View}{gs gs':Array SH}{w w':Tq}{sl:Option (Nat×Nat)}{t:Uk}{K:Nat->GS}{Im:cx}{ic:Nat}{ph:Option Phase}{p:Phase}{st st':Option eo}
theorem Inv.draw(h:Inv P n0 W0 V gs w t K Im ic ph st)(d:Nat):Inv P n0 W0 V gs (w.at d) t K Im ic ph st:=
 let⟨a,b,c,e⟩:=h.out
 Inv.mk' h.pos h.k0 h.d0 a (b.draw d) c (by cases ph<;>exact e)
theorem Nf{f:Nat->Nat}:∀{N:Nat},0<sumTo N f->∃i,i<N/\0<f i
 |0,h=>by simp[sumTo]at h
 |N+1,h=>by
  by_cases hN:0<f N
  ·exact⟨N,by omega,hN⟩
  ·obtain⟨i,hi,hf⟩:=Nf (N:=N) (f:=f) (by rw[sumTo]at h;omega);exact⟨i,by omega,hf⟩
theorem Inv.aqj(h:Inv P n0 W0 V gs w t K Im ic (some p) st)(aH:p.recv=true)(ho:yC w p.c)(sN:Calm gs):∃i gi,0<i/\gs[i]?=some gi/\gi.status=.running:=by
 obtain⟨s,hs,gh,iH,hm⟩:=h.mode aH;have h0:=h.k0;have BJ:gs[ic]?=some gs[ic]:=SK iH;have ate:(K ic).is P p.c p.Wg Im p.Ss (UT t ic) gs[ic]:=h.is ic _ gh BJ;have run:∀i x,0<i->gs[i]?=some x->(∀q,K i≠ .gone q)->(∀n,K i≠ .gX n)->x.status=.running:=by
  intro i x hi hx h1 h2;rcases GS.runs (show (K i).is P p.c p.Wg Im p.Ss (UT t i) x from h.is i x hi hx)with e|⟨_,q,e⟩|⟨j,h',V1,V2,g1,v,z,e⟩|⟨⟨n,e⟩,_⟩
  ·exact e
  ·exact absurd e (h1 q)
  ·have cD:=h.is i x hi hx;simp only[e,GS.is]at cD;obtain⟨_,_,jb,_⟩:=cD;have:=sN i x hi hx (by rw[jb];rfl);rw[jb]at this;cases this
  ·exact absurd e (h2 n)
 have Lr:(∀q,K ic≠ .gone q)->(∀n,K ic≠ .gX n)->∃i gi,0<i/\gs[i]?=some gi/\gi.status=.running:=λa b=>⟨ic,_,gh,BJ,run ic _ gh BJ a b⟩;have other:∀i,i<gs.size->(K i).cnt=1\/(K i).late=1->∃i gi,0<i/\gs[i]?=some gi/\gi.status=.running:=by
  intro i hi hc;have eS:0<i:=by
   rcases UZ i with rfl|x
   ·rw[h0]at hc;rcases hc with c|c<;>cases c
   ·exact x
  exact⟨i,_,eS,SK hi,run i _ eS (SK hi) (λq e=>by rw[e]at hc;rcases hc with c|c<;>cases c) (λq e=>by rw[e]at hc;rcases hc with c|c<;>cases c)⟩
 have one:∀i,0<(K i).cnt->(K i).cnt=1:=λi hi=>by cases e:K i<;>rw[e]at hi<;>first|rfl|exact absurd hi (by simp[GS.cnt])
 have anK:∀i,0<(K i).late->(K i).late=1:=λi hi=>by cases e:K i<;>rw[e]at hi<;>first|rfl|exact absurd hi (by simp[GS.late])
 unfold Mode at hm;rcases hm with m|m|m|m|m|m|m
 ·rcases m.2.2.2.2.2 with⟨k,e,_⟩|⟨v,e,_⟩<;>exact Lr (λq x=>by rw[x]at e;cases e) (λq x=>by rw[x]at e;cases e)
 ·obtain⟨i,hi,hc⟩:=Nf (N:=gs.size) (f:=λi=>(K i).cnt) (by have:=m.2.2.2.1;omega);exact other i hi (.inl (one i hc))
 ·obtain⟨i,hi,hc⟩:=Nf (N:=gs.size) (f:=λi=>(K i).late) (by have:=m.2.2.1;omega);exact other i hi (.inr (anK i hc))
 ·exact⟨ic,_,gh,BJ,m.2.2.2.2.2.1 _ BJ⟩
 ·rcases m.2.2.2.2.2 with e|e<;>exact Lr (λq x=>by rw[x]at e;cases e) (λq x=>by rw[x]at e;cases e)
 ·rcases m.2.2.2.2 with e|e<;>exact Lr (λq x=>by rw[x]at e;cases e) (λq x=>by rw[x]at e;cases e)
 ·obtain⟨⟨_,n,_,_,_,aY⟩,_⟩:=m;obtain⟨n',ho⟩:=ho;rw[aY]at ho;simp at ho
theorem rX(V':View)(Im:cx)(K:Nat->GS):bF V' Im K=upd (bF V Im K) 0 V':=by
 funext j;by_cases hj:j=0
 ·subst hj;rw[bw];simp[bF]
 ·rw[a_ _ _ hj];simp[bF,hj]
theorem kR:bF V Im K 0=V:=by simp[bF]
def ve (r:m8)(ph:Option Phase):Prop:=match r with
 |.plain=>ph=none
 |.fork c Wg Ss=>ph=some ⟨c,Wg,Ss,false⟩
 |.recv c Wg Ss=>ph=some ⟨c,Wg,Ss,true⟩
 |.work .. =>False
theorem Inv.amV(h:Inv P n0 W0 V gs w t K Im ic ph st){V':View}(g:dW V V')(hr:ve V.role ph):Inv P n0 W0 V' gs w t K Im ic ph st:=by
 obtain⟨dh,hc,mO,gF⟩:=h.out;refine Inv.mk' h.pos h.k0 (by rw[g.deaf];exact h.d0) dh ?_ mO ?_
 ·rw[rX (V:=V)];exact hc.ghost h.pos (by rw[kR];exact g)
 ·cases ph with
  |none=>exact gF
  |some p=>
   obtain⟨a1,a2,a3,a4,a5,a6,a7,a8,a9,bT⟩:=gF;refine⟨a1,a2,a3,a4,a5,a6,a7,a8,a9,?_⟩;split
   ·rename_i aH;rw[if_pos aH]at bT;have b:jl p V:=⟨bT.1.1,bT.1.2.1,bT.1.2.2.1,bT.1.2.2.2⟩;have b':=b.ghost g;exact⟨⟨b'.1,b'.2.1,b'.2.2.1,b'.2.2.2⟩,bT.2⟩
   ·rename_i aH;rw[if_neg aH]at bT;refine⟨g.chan _ _ ?_ bT.1,bT.2⟩;unfold ve at hr;split at hr
    ·cases hr
    ·cases hr;rename_i e;rw[e];rfl
    ·cases hr;exact absurd rfl aH
    ·exact hr.elim
theorem Inv.aaS(h:Inv P n0 W0 V gs w t K Im ic ph st){g0 g':SH}{es:Array Uo}{V':View}(h0:gs[0]?=some g0)(s:dc V w V' w' es)(hr:ve V.role ph):
  Inv P n0 W0 V' ((gs.map (woken P g0 g' w')).setIfInBounds 0 g') w' (t++Ta 0 g0.frame.fn g0.frame.place es) K Im ic ph st:=by
 obtain⟨dh,hc,mO,gF⟩:=h.out;have aV:((gs.map (woken P g0 g' w')).setIfInBounds 0 g').size=gs.size:=by simp
 have CB:∀op∈Ta 0 g0.frame.fn g0.frame.place es,op.g=0:=λop au=>by obtain⟨e,_,rfl⟩:=TL au;rfl
 have ja:∀{u:Uk}{idx:Nat}{op:Wd},(t++u)[idx]?=some op->op.g=0->Wo (t++u) 0 idx:=λ{u idx op} a b=>by have:=Zh a;rwa [b]at this
 have Q_:∀p,ph=some p->w'.heap[p.c]?=w.heap[p.c]?:=by
  rintro p rfl
  obtain⟨a1,a2,a3,a4,a5,a6,a7,a8,a9,bT⟩:=gF;by_cases aH:p.recv=true
  ·rw[if_pos aH]at bT;exact s.frame _ a4 bT.1.1
  ·rw[if_neg aH]at bT;have dK:Sat V w:=(by have:=hc.sat 0 h.pos;rwa [kR]at this);have eX:V.role.chan=some p.c:=by
    unfold ve at hr;split at hr
    ·cases hr
    ·cases hr;rename_i e;rw[e];rfl
    ·cases hr;exact absurd rfl aH
    ·exact hr.elim
   rw[s.sat.own _ _ (s.chan _ _ eX bT.1),dK.own _ _ bT.1]
 refine Inv.mk' (by rw[aV];exact h.pos) h.k0 (by rw[Deaf_own,s.deaf,h.d0]) (λj x hj hx=> ?_) ?_ ?_ ?_
 ·rcases getElem?_next h.pos hx with⟨e,_⟩|⟨_,y,hy,rfl⟩
  ·omega
  ·rw[atS t (g:=j) (g':=0) (by omega) _ CB];have CK:=dh j y hj hy;have Ks:j<gs.size:=(SU.1 hy).1;cases ph with
   |none=>
    obtain⟨q,hq,o_⟩:=CK;exact⟨q,hq,by rw[woken_quitsD o_];exact o_⟩
   |some p=>
    refine aam ?_ CK;rcases h.opens rfl with⟨n,x⟩|x
    ·exact .inl ⟨n,by rw[Q_ p rfl];exact x⟩
    ·exact .inr (x.1 j hj Ks)
 ·rw[aV,rX (V:=V)];refine hc.step h.pos (by rw[kR];exact s) (λe he x hx hs=> ?_) g0.frame.fn g0.frame.place;cases ph with
  |none=>exact hs.elim
  |some p=>
   obtain⟨a1,a2,a3,a4,a5,a6,a7,a8,a9,bT⟩:=gF;have pQ:=IX (s.fg e he) hx;by_cases aH:p.recv=true
   ·exfalso;rw[if_pos aH]at bT;have b:jl p V:=⟨bT.1.1,bT.1.2.1,bT.1.2.2.1,bT.1.2.2.2⟩;rcases pQ.1 with y|⟨y,_⟩|y
    ·exact b.Aa y.rd hs
    ·exact b.Aa y hs
    ·exact y (acn a4 a5 hs)
   ·rw[if_neg aH]at bT;have jc:V.role.chan=some p.c/\V.role.group=some p.Wg:=by
     unfold ve at hr;split at hr
     ·cases hr
     ·cases hr;rename_i e;rw[e];exact⟨rfl,rfl⟩
     ·cases hr;exact absurd rfl aH
     ·exact hr.elim
    have j7:nb (some p) gs.size ic K 0:=by
     show iR p gs.size ic K 0;unfold iR;rw[if_neg aH];exact .inl rfl
    have Cs:x.kind≠ .plain:=by
     intro hk;cases hl:x.loc with
     |cell a=>rw[hl]at hs;exact pQ.2.2 _ a jc.2 hl hs hk
     |obj r=>rw[hl]at hs;exact pQ.2.1 _ jc.1 (by rw[hl];exact congrArg _ hs)
     |_=>rw[hl]at hs;exact hs.elim
    cases hk:x.kind with
    |plain=>exact absurd hk Cs
    |atomic=>exact .inl ⟨rfl,j7⟩
    |said=>exact .inr ⟨rfl,bT.2.1.symm,j7⟩
 ·have v7:∀idx a,t.size<=idx->(∃op∈Ta 0 g0.frame.fn g0.frame.place es,(t++Ta 0 g0.frame.fn g0.frame.place es)[idx]?=some op/\op.act.touch?=some a)->Wo (t++Ta 0 g0.frame.fn g0.frame.place es) 0 idx:=λidx a _ ⟨op,au,hi,_⟩=>ja hi (CB op au);cases st with
  |none=>
   intro idx a ha hm;rcases Az ha with f_|⟨hi,x⟩
   ·obtain⟨op,au,_⟩:=UV f_;rcases mO idx a f_ hm with x|⟨x,y⟩|⟨_,z,_⟩
    ·exact .inl (x.app _)
    ·exact .inr (.inl ⟨x,λz=>y ((Ws (TG au)).1 z)⟩)
    ·cases z
   ·exact .inl (v7 idx a hi x)
  |some s'=>
   exact mO.app (λidx a ha hx=> .inr (hx.app (by obtain⟨op,au,_⟩:=UV ha;exact TG au) λj _ _ hj=> .inl hj)) (λidx a hi x _=> .inl (v7 idx a hi x))
 ·cases ph with
  |none=>exact gF
  |some p=>
   obtain⟨a1,a2,a3,a4,a5,a6,a7,a8,a9,bT⟩:=gF;refine⟨a1,a2,a3,Te a4 s.size,Te a5 s.size,a6,a7,λj j' m b1 b2 b3 b4=>a8 j j' m b1 (aV▸b2) b3 (aV▸b4),λj S b1 b2=>by rw[aV];exact a9 j S b1 b2,?_⟩;split
   ·rename_i aH;rw[if_pos aH]at bT;obtain⟨c1,c2,c3,s',c4,c5⟩:=bT;have b:jl p V:=⟨c1.1,c1.2.1,c1.2.2.1,c1.2.2.2⟩;have b':=b.step s a4 a5;refine⟨⟨b'.1,b'.2.1,b'.2.2.1,b'.2.2.2⟩,c2,by rw[aV];exact c3,s',c4,?_⟩;rw[aV];refine c5.keep (λ_=>rfl) (Q_ p rfl) (s.frame _ a5 b.2.2.1) λrz g hg=> ?_;rcases getElem?_next h.pos hg with⟨e,_⟩|⟨_,y,hy,rfl⟩
    ·omega
    ·rw[Yk (rz y hy)];exact rz y hy
   ·rename_i aH;rw[if_neg aH]at bT;have eX:V.role.chan=some p.c:=by
     unfold ve at hr;split at hr
     ·cases hr
     ·cases hr;rename_i e;rw[e];rfl
     ·cases hr;exact absurd rfl aH
     ·exact hr.elim
    exact⟨s.chan _ _ eX bT.1,bT.2.1,bT.2.2.1,by rw[aV];exact bT.2.2.2.1,bT.2.2.2.2.1,by rw[aV];exact bT.2.2.2.2.2⟩
end
theorem ade{x y:Wd}{k:Nat}(hx:x.act=.go k)(hy:y.act=.start):∀op∈(#[x,y]:Uk),op.act.touch?=none/\still op.act/\(∀B,op.act.low B)/\∀a,op.act≠ .mark (.release a):=by
 intro op au;simp only[TJ,SL,S4,or_false]at au;rcases au with rfl|rfl
 ·rw[hx];exact⟨rfl,⟨by simp,by simp⟩,λ_=>trivial,by simp⟩
 ·rw[hy];exact⟨rfl,⟨by simp,by simp⟩,λ_=>trivial,by simp⟩
theorem O7{t:Uk}{N:Nat}(h:∀op∈t,op.g<N):UT t N=0:=by
 have key:∀k,k<=t.size->t.deaf N k=0:=by
  intro k;induction k with
  |zero=>intro _;rfl
  |succ k ih=>
   intro hk;have hy:t[k]?=some t[k]:=SK (by omega);have aE:¬t[k].g=N:=(by have:=h t[k] (XS _);omega);rw[ad_ hy,ih (by omega)];unfold deafStep;split<;>simp[aE]
 exact key _ (SR _)
section
variable {VV:Nat->View}{N:Nat}{w:Tq}{t:Uk}{Sh:Loc->Prop}{act act':Nat->Prop}{ic kH n0:Nat}{W0:Tq}
theorem Core.spawn(h:Core VV N w t Sh act ic n0 W0)(h0:0<N)(aT:UT t 0=0){x y:Wd}(hx:x.g=0/\x.act=.go N)(hy:y.g=N/\y.act=.start){U:View}(hi:U.ab=(VV 0).ab)(ho:U.own=λ_=>none)
  (j7:∀i,act' i->act i\/(i=N/\act 0)) (fL:kH=ic\/(kH=N/\ic=0)):Core (upd VV N U) (N+1) w (t++#[x,y]) Sh act' kH n0 W0:=by
 have jC:=ade hx.2 hy.2;have hdN:UT t N=0:=O7 h.ti.gs;have hk:∀{idx},Wo t 0 idx->Wo (t++#[x,y]) N idx:=λ{idx} jE=>fork_knows hx hy aT hdN jE;have hsU:Sat U w:=⟨λb o v e=>(h.sat 0 h0).ab b o v (by rw[<- hi];exact e),λb x e=>by rw[ho]at e;cases e⟩;refine⟨λi cD=> ?_,λa b ha hb fh=> ?_,?_,h.tape,h.os,h.out,h.old,λi cD b hb=> ?_,h.n0⟩
 ·by_cases fy:i=N
  ·subst fy;rw[bw];exact hsU
  ·rw[a_ _ _ fy];exact h.sat i (by omega)
 ·by_cases QW:a=N
  ·subst QW;rw[bw];intro q hq;rw[ho]at hq;exact absurd rfl hq
  ·rw[a_ _ _ QW];by_cases Q4:b=N
   ·subst Q4;rw[bw];intro q hq;refine⟨by rw[ho],λo hu=> ?_⟩;rw[hi]at hu;by_cases zg:a=0
    ·subst zg;exact hu
    ·exact(h.dJ a 0 (by omega) h0 zg q hq).2 o hu
   ·rw[a_ _ _ Q4];exact h.dJ a b (by omega) (by omega) fh
 ·refine h.ti.mute (λop au=>(jC op au).1) (λop au=>(jC op au).2.2.1 _) (λop au=> ?_) (by omega) (λop au=>(jC op au).2.2.2) (λi cD l hl idx a ha gD rF=> ?_) (λi cD l hl idx a ha gD=> ?_) (λidx a ha dQ=>⟨λhp i cD=> ?_,λhp=> ?_⟩)
  ·simp only[TJ,SL,S4,or_false]at au;rcases au with rfl|rfl
   ·omega
   ·omega
  ·obtain⟨_,cN,me⟩:=hl;by_cases fy:i=N
   ·subst fy;rw[bw]at cN;have:gJ (VV 0) l:=by
     cases l with
     |cell a'=>rcases cN with z|z;exact absurd (by rw[ho]) z;exact .inr (by rw[<- hi];exact z)
     |obj r=>exact absurd (by rw[ho]) cN
     |_=>exact cN.elim
    exact hk (h.ti.kr 0 h0 l ⟨h0,this,me⟩ idx a ha gD rF)
   ·rw[a_ _ _ fy]at cN;exact(h.ti.kr i (by omega) l ⟨by omega,cN,me⟩ idx a ha gD rF).app _
  ·obtain⟨_,cN,me⟩:=hl;by_cases fy:i=N
   ·subst fy;rw[bw]at cN;exfalso;cases l with
    |cell a'=>exact cN.1 (by rw[ho])
    |obj r=>exact cN (by rw[ho])
    |_=>exact cN.elim
   ·rw[a_ _ _ fy]at cN;exact(h.ti.kw i (by omega) l ⟨by omega,cN,me⟩ idx a ha gD).app _
  ·have:=h.ti.sp idx a ha dQ;rcases j7 i cD with z|⟨rfl,z⟩
   ·exact(this.1 hp i z).app _
   ·exact hk (this.1 hp 0 z)
  ·have:=h.ti.sp idx a ha dQ;rcases fL with rfl|⟨rfl,rfl⟩
   ·exact(this.2 hp).app _
   ·exact hk (this.2 hp)
 ·by_cases fy:i=N
  ·subst fy;rw[bw,ho]
  ·rw[a_ _ _ fy];exact h.jh i (by omega) b hb
end
section
variable {P:SJ}{n0:Nat}{W0:Tq}{V:View}{gs gs':Array SH}{w w':Tq}{sl:Option (Nat×Nat)}{t:Uk}{K:Nat->GS}{Im:cx}{ic:Nat}{ph:Option Phase}{p:Phase}{st st':Option eo}
theorem GS.adr{k:GS}(h:k.ng=false)(Im kT:cx):k.view kT=k.view Im:=by cases k<;>first|rfl|cases h
theorem GS.alD{k:GS}{c Wg d:Nat}{Im kT:cx}{Ss N0:List (List Spec)}{g:SH}(h:k.ng=false)(hS:∀(j:Nat) S,Ss[j]?=some S->N0[j]?=some S)(hk:k.is P c Wg Im Ss d g):k.is P c Wg kT N0 d g:=by
 cases k with
 |work j hh V=>obtain⟨a,b,S,e,f⟩:=hk;exact⟨a,b,S,hS _ _ e,f⟩
 |nQ j hh V V' g0 v z=>obtain⟨a,b,c,d,sp,S,B,e,f⟩:=hk;exact⟨a,b,c,d,sp,S,B,hS _ _ e,f⟩
 |gone q=>exact hk
 |add n=>exact hk
 |load n=>exact hk
 |store n=>exact hk
 |mw n=>exact hk
 |head k n=>cases h
 |l9 k n=>cases h
 |said n=>cases h
 |gX n=>cases h
 |last n=>cases h
 |acq n=>cases h
 |look n=>cases h
 |close n=>cases h
theorem Inv.spawn(h:Inv P n0 W0 V gs w t K Im ic (some p) st)(aH:p.recv=false)(iD:V.deaf=0){g' child:SH}{x y:Wd}(hx:x.g=0/\x.act=.go gs.size)(hy:y.g=gs.size/\y.act=.start){V':View}{p':Phase}{kT:cx}{kH:Nat}{k':GS}(hc:p'.c=p.c)(ze:p'.Wg=p.Wg)
  (p7:mC V' V) (ul:V'.deaf=V.deaf) (qh:(k'.view kT).ab=V.ab) (hvo:(k'.view kT).own=λ_=>none) (hSs:∀(j:Nat) S,p.Ss[j]?=some S->p'.Ss[j]?=some S) (B8:k'.is P p.c p.Wg kT p'.Ss 0 child)
  (j7:∀i,i<gs.size->iR p' (gs.size+1) kH (upd K gs.size k') i->iR p gs.size ic K i) (fL:kH=ic\/kH=gs.size)
  (Ct:yD P n0 V' ((gs.setIfInBounds 0 g').push child) w (t++#[x,y]) (upd K gs.size k') kT kH (some p') (some .early)):
  Inv P n0 W0 V' ((gs.setIfInBounds 0 g').push child) w (t++#[x,y]) (upd K gs.size k') kT kH (some p') (some .early):=by
 obtain⟨dh,gN,mO,gF⟩:=h.out;obtain⟨a1,a2,a3,a4,a5,a6,a7,a8,a9,bT⟩:=gF;rw[if_neg (by rw[aH];simp)]at bT;obtain⟨c1,c2,c3,c4,c5,c6⟩:=bT;have aV:((gs.setIfInBounds 0 g').push child).size=gs.size+1:=by simp
 have jC:=ade hx.2 hy.2;have bx:∀i,UT (t++#[x,y]) i=UT t i:=λi=>Deaf_still λop au=>(jC op au).2.1;have Cu:=h.pos;have aT:UT t 0=0:=by rw[h.d0,iD]
 have aY:∀i,0<i->(K i).ng=false:=λi hi=>by
  cases e:(K i).ng with
  |false=>rfl
  |true=>have:=h.rT hi e;omega
 have ajs:nb (some p) gs.size ic K 0:=by
  show iR p gs.size ic K 0;unfold iR;rw[if_neg (by rw[aH];simp)];exact .inl rfl
 have xy:=gN.spawn (act':=nb (some p') (gs.size+1) kH (upd K gs.size k')) (kH:=kH) Cu aT hx hy (U:=k'.view kT) (by rw[kR];exact qh) hvo (λi hi=>by
   by_cases fy:i<gs.size
   ·exact .inl (j7 i fy hi)
   ·refine .inr ⟨?_,ajs⟩;have cD:iR p' (gs.size+1) kH (upd K gs.size k') i:=hi;unfold iR at cD;split at cD<;>omega) (fL.imp id λe=>⟨e,c2⟩)
 have ajS:=(xy.less (i:=0) (V':=V') (by omega) (by rw[a_ _ _ (by omega),kR];exact p7)).congr (D8:=bF V' kT (upd K gs.size k')) λi hi=>by
  by_cases eS:i=0
  ·subst eS;rw[bw];simp[bF]
  ·rw[a_ _ _ eS];by_cases fy:i=gs.size
   ·subst fy;rw[bw];simp[bF,eS,bw]
   ·rw[a_ _ _ fy];simp only[bF,eS,if_false,a_ _ _ fy];exact GS.adr (aY i (by omega)) _ _
 refine Inv.mk' (by omega) (by rw[a_ _ _ (by omega)];exact h.k0) (by rw[bx,ul];exact h.d0) (λi z hi hz=> ?_) ?_ ?_ Ct
 ·rw[bx];show (upd K gs.size k' i).is P p'.c p'.Wg kT p'.Ss _ z;rw[hc,ze];by_cases fy:i=gs.size
  ·subst fy;rw[bw,O7 gN.ti.gs];have:z=child:=by
    rw[show gs.size=(gs.setIfInBounds 0 g').size by simp]at hz;rw[Array.getElem?_push_size]at hz;exact(VX hz).symm
   rw[this];exact B8
  ·have atc:i<gs.size:=(by have:=(SU.1 hz).1;omega);rw[a_ _ _ fy];rw[Xh,if_neg (by simp;omega),SV (by omega)]at hz;exact GS.alD (aY i hi) hSs (dh i z hi hz)
 ·rw[aV];have e:rR (some p')=rR (some p):=by show qG p'.c p'.Wg=qG p.c p.Wg;rw[hc,ze]
  rw[e];exact ajS
 ·have hr:Rest p.Wg t K ic st:=mO;rw[c3]at hr;show Rest p'.Wg _ _ _ _;rw[ze];intro idx a ha hm;have f_:=AA (λop au=>(jC op au).1) ha;obtain⟨op,au,_⟩:=UV f_;have hlt:=TG au;rcases hr idx a f_ hm with z|⟨z1,z2⟩|⟨s,hs,jE⟩
  ·exact .inl (z.app _)
  ·exact .inr (.inl ⟨z1,λz=>z2 ((Ws hlt).1 z)⟩)
  ·cases hs;obtain⟨i,hg,hi,hz⟩:=jE;have fy:i<gs.size:=by
    obtain⟨op',bc,o0⟩:=Ts.1 hg;rw[<- o0];exact gN.ti.gs op' (XR bc)
   refine .inr (.inr ⟨.early,rfl,i,by rw[g?_old hlt];exact hg,hi,?_⟩);rcases hz with hz|hz|⟨r,hz,hle⟩
   ·exact .inl (by rw[a_ _ _ (by omega)];exact hz)
   ·omega
   ·exact .inr (.inr ⟨r,hz.app,hle⟩)
theorem Sat.Lv{c:Nat}{a:Nat}{x:Bool}{y z:Nat}{u:Bool}{En:Array SP}(h:Sat V w)(hc:w.heap[c]?=some (.chan a En x y z u))(o:Nat):V.ab c o=none:=by
 cases e:V.ab c o with
 |none=>rfl
 |some v=>have:=h.ab c o v e;simp[Ux,hc]at this
theorem Inv.aa5(h:Inv P n0 W0 V gs w t K Im ic (some p) st)(aH:p.recv=false){i:Nat}(hi:0<i):(K i).ng=false:=by
 have hx:=h.phase.2.2.2.2.2.2.2.2.2;rw[if_neg (by rw[aH];simp)]at hx;cases e:(K i).ng with
 |false=>rfl
 |true=>have:=h.rT hi e;have:=hx.2.1;omega
theorem Inv.EJ(h:Inv P n0 W0 V gs w t K Im ic (some p) st)(aH:p.recv=false)(iD:V.deaf=0){g' child:SH}{x y:Wd}(hx:x.g=0/\x.act=.go gs.size)(hy:y.g=gs.size/\y.act=.start){hh:Ht}{sp:Spec}{S:List Spec}(hlen:p.Ss.length<4)(od:∀o,V.ab p.Wg o=none)
  (B8:lD P hh {ab:=V.ab,own:=λ_=>none,deaf:=0,role:=.work p.c p.Wg (sp::S)} child):
  Inv P n0 W0 {V with role:=.fork p.c p.Wg (p.Ss++[sp::S])} ((gs.setIfInBounds 0 g').push child) w (t++#[x,y]) (upd K gs.size (.work p.Ss.length hh {ab:=V.ab,own:=λ_=>none,deaf:=0,role:=.work p.c p.Wg (sp::S)})) Im ic
   (some {p with Ss:=p.Ss++[sp::S]}) (some .early):=by
 obtain⟨dh,gN,mO,gF⟩:=h.out;obtain⟨a1,a2,a3,a4,a5,a6,a7,a8,a9,bT⟩:=gF;rw[if_neg (by rw[aH];simp)]at bT;obtain⟨c1,c2,c3,c4,c5,c6⟩:=bT;have aV:((gs.setIfInBounds 0 g').push child).size=gs.size+1:=by simp
 have dK:Sat V w:=by have:=gN.sat 0 h.pos;rwa [kR]at this
 have zn:=dK.Lv (dK.own _ _ c1);have cY:∀i j,0<i->i<gs.size->(K i).idx=some j->j<p.Ss.length:=λi j hi hlt e=>by
  have Rt:=dh i _ hi (SK hlt);have Ko:(K i).is P p.c p.Wg Im p.Ss (UT t i) gs[i]:=Rt;cases lc:K i<;>rw[lc]at e Ko<;>simp[GS.idx]at e
  ·subst e;obtain⟨_,_,S,e,_⟩:=Ko;exact(SM.1 e).1
  ·subst e;obtain⟨_,_,_,_,_,_,_,e,_⟩:=Ko;exact(SM.1 e).1
 refine h.spawn aH iD hx hy rfl rfl ⟨λ_=> .inr rfl,λ_ _=> .inr rfl,λ_ _ _=>rfl⟩ rfl rfl rfl (λj S' e=> ?_) ⟨rfl,B8,sp::S,by simp,rfl⟩ (λi hi j7=> ?_) (.inl rfl) ?_
 ·show (p.Ss++[sp::S])[j]?=some S';rw[SX (SM.1 e).1];exact e
 ·unfold iR at j7⊢;rw[if_neg (by show ¬p.recv=true;rw[aH];simp)]at j7;rw[if_neg (by rw[aH];simp)];rw[a_ _ _ (by omega)]at j7;exact j7.imp id λz=>⟨hi,z.2⟩
 ·refine⟨a1,a2,a3,a4,a5,by simp only[SO,Ui,UQ];omega,λi hi=> ?_,λi i' j b1 b2 b3 b4 b5 b6=> ?_,λj S' b1 b2=> ?_,?_⟩
  ·by_cases fy:i=gs.size
   ·subst fy;rw[bw];exact⟨rfl,zn,rfl,od,λe=>by cases e⟩
   ·rw[a_ _ _ fy];exact a7 i hi
  ·rw[aV]at b2 b4;by_cases e1:i=gs.size
   ·by_cases e2:i'=gs.size
    ·omega
    ·rw[a_ _ _ e2]at b6;have:=cY i' j b3 (by omega) b6;subst e1;rw[bw]at b5;simp only[GS.idx,Tn]at b5;omega
   ·rw[a_ _ _ e1]at b5;by_cases e2:i'=gs.size
    ·have:=cY i j b1 (by omega) b5;subst e2;rw[bw]at b6;simp only[GS.idx,Tn]at b6;omega
    ·rw[a_ _ _ e2]at b6;exact a8 i i' j b1 (by omega) b3 (by omega) b5 b6
  ·rw[aV];by_cases hj:j<p.Ss.length
   ·have:p.Ss[j]?=some S':=by
     have Ii:(p.Ss++[sp::S])[j]?=some S':=b1;rwa [SX hj]at Ii
    obtain⟨i,e1,e2,e3⟩:=a9 j S' this b2;exact⟨i,e1,by omega,by rw[a_ _ _ (by omega)];exact e3⟩
   ·have im:j=p.Ss.length:=by
     have:=(SM.1 (show (p.Ss++[sp::S])[j]?=some S' from b1)).1;simp at this;omega
    exact⟨gs.size,h.pos,by omega,by rw[bw,im];rfl⟩
  ·show if p.recv=true then _ else _;rw[if_neg (by rw[aH];simp)];refine⟨c1,c2,rfl,λi b1 b2=> ?_,λS' hS'=> ?_,?_⟩
   ·rw[aV]at b2;by_cases fy:i=gs.size
    ·subst fy;rw[bw];exact .inl rfl
    ·rw[a_ _ _ fy];exact c4 i b1 (by omega)
   ·rcases SS.1 hS' with z|z
    ·exact c5 S' z
    ·simp at z;subst z;simp
   ·rw[aV,sumTo,bw,SO,<- c6];rw[Vl (g:=λi=>(K i).cnt) λi hi=>by rw[a_ _ _ (by omega)]];rfl
theorem Inv.EI(h:Inv P n0 W0 V gs w t K Im ic (some p) st)(aH:p.recv=false)(iD:V.deaf=0){g' child:SH}{x y:Wd}(hx:x.g=0/\x.act=.go gs.size)(hy:y.g=gs.size/\y.act=.start){n:Nat}
  (ze:V.own p.Wg=some (wgBlock P (((p.Ss.length:Nat):Int)* KK) 0)) (od:∀o,V.ab p.Wg o=none) (B8:cQ P (eM P V.ab p.c p.Wg 5) n 0 child):
  Inv P n0 W0 {V with own:=λb=>if b=p.c\/b=p.Wg then none else V.own b,role:=.recv p.c p.Wg p.Ss} ((gs.setIfInBounds 0 g').push child) w (t++#[x,y]) (upd K gs.size (.head 5 n)) V.ab gs.size (some {p with recv:=true}) (some .early):=by
 obtain⟨dh,gN,mO,gF⟩:=h.out;obtain⟨a1,a2,a3,a4,a5,a6,a7,a8,a9,bT⟩:=gF;rw[if_neg (by rw[aH];simp)]at bT;obtain⟨c1,c2,c3,c4,c5,c6⟩:=bT;have aV:((gs.setIfInBounds 0 g').push child).size=gs.size+1:=by simp
 have dK:Sat V w:=by have:=gN.sat 0 h.pos;rwa [kR]at this
 have zn:=dK.Lv (dK.own _ _ c1);have Cu:=h.pos;refine h.spawn aH iD hx hy rfl rfl ⟨λb=> ?_,λ_ _=> .inr rfl,λ_ _ _=>rfl⟩ rfl rfl rfl (λj S' e=>e) B8 (λi hi j7=> ?_) (.inr rfl) ?_
 ·by_cases e:b=p.c\/b=p.Wg
  ·exact .inl (by simp only[e,if_true])
  ·exact .inr (by simp only[e,if_false])
 ·unfold iR at j7⊢;rw[if_pos rfl]at j7;rw[if_neg (by rw[aH];simp)];rw[a_ _ _ (by omega)]at j7;obtain⟨z1,_,z2⟩:=j7;rcases c4 i z1 hi with z|⟨q,z⟩
  ·exact .inr ⟨hi,z⟩
  ·exfalso;rw[z]at z2;rcases z2 with z2|z2|z2|z2
   ·cases z2
   ·omega
   ·cases z2
   ·cases z2
 ·refine⟨a1,a2,a3,a4,a5,a6,λi hi=> ?_,λi i' j b1 b2 b3 b4 b5 b6=> ?_,λj S' b1 b2=> ?_,?_⟩
  ·by_cases fy:i=gs.size
   ·subst fy;rw[bw];exact⟨rfl,zn,rfl,od,λ_=>rfl⟩
   ·rw[a_ _ _ fy,GS.adr (h.aa5 aH hi) Im];have:=a7 i hi;exact⟨this.1,this.2.1,this.2.2.1,this.2.2.2.1,λe=>by rw[h.aa5 aH hi]at e;cases e⟩
  ·rw[aV]at b2 b4;by_cases e1:i=gs.size
   ·subst e1;rw[bw]at b5;cases b5
   ·by_cases e2:i'=gs.size
    ·subst e2;rw[bw]at b6;cases b6
    ·rw[a_ _ _ e1]at b5;rw[a_ _ _ e2]at b6;exact a8 i i' j b1 (by omega) b3 (by omega) b5 b6
  ·obtain⟨i,e1,e2,e3⟩:=a9 j S' b1 b2;exact⟨i,e1,by omega,by rw[a_ _ _ (by omega)];exact e3⟩
  ·show if true=true then _ else _;rw[if_pos rfl];refine⟨⟨by simp,zn,by simp,od⟩,by omega,by rw[aV];omega,.early,rfl,?_⟩;rw[aV];have e1:sumTo (gs.size+1) (λi=>(upd K gs.size (.head 5 n) i).cnt)=p.Ss.length:=by
    rw[sumTo,bw,<- c6];rw[Vl (g:=λi=>(K i).cnt) λi hi=>by rw[a_ _ _ (by omega)]];rfl
   have e2:sumTo (gs.size+1) (λi=>(upd K gs.size (.head 5 n) i).late)=0:=by
    have hz:∀N,sumTo N (λ_=>0)=0:=λN=>(by induction N with|zero=>rfl|succ N ih=>simp[sumTo,ih]);rw[sumTo,bw];rw[Vl (g:=λ_=>0) λi hi=> ?_,hz]
    ·rfl
    ·rw[a_ _ _ (by omega)];rcases UZ i with rfl|eS
     ·rw[h.k0];rfl
     ·rcases c4 i eS hi with z|⟨q,z⟩
      ·cases lc:K i<;>rw[lc]at z<;>first|rfl|cases z
      ·rw[z];rfl
   unfold Mode;simp only[e1,e2,bw];exact .inl ⟨⟨0,dK.own _ _ c1⟩,trivial,trivial,a6,dK.own _ _ ze,.inl ⟨5,rfl,by omega⟩⟩
theorem Inv.begin(h:Inv P n0 W0 V gs w t K Im ic none st){c Wg:Nat}(aE:c≠Wg)(hc:V.own c=some (.chan 0 #[] false 0 0 false)) (hW:V.own Wg≠none) (od:∀o,V.ab Wg o=none):
  Inv P n0 W0 {V with role:=.fork c Wg []} gs w t (λi=>if i<gs.size then K i else .gone 0) Im 0 (some ⟨c,Wg,[],false⟩) (some .early):=by
 obtain⟨dh,gN,mO,gF⟩:=h.out;have dK:Sat V w:=by have:=gN.sat 0 h.pos;rwa [kR]at this
 have zn:=dK.Lv (dK.own _ _ hc);have sT:∀i,(∃q,(if i<gs.size then K i else .gone 0)=GS.gone q):=λi=>by
  by_cases hi:i<gs.size
  ·rw[if_pos hi];rcases UZ i with rfl|eS
   ·exact⟨0,h.k0⟩
   ·obtain⟨q,hq,_⟩:=dh i _ eS (SK hi);exact⟨q,hq⟩
  ·rw[if_neg hi];exact⟨0,rfl⟩
 have gZ:∀{b x},V.own b=some x->n0<=b/\b<w.heap.size:=λ{b x} e=>by
  refine⟨?_,dK.lt e⟩;apply Nat.le_of_not_lt;intro hb;have:=gN.jh 0 h.pos b hb;rw[kR,e]at this;cases this
 obtain⟨xW,hxW⟩:∃x,V.own Wg=some x:=by cases e:V.own Wg with|none=>exact absurd e hW|some x=>exact⟨x,rfl⟩
 have mj:∀i,0<i->((if i<gs.size then K i else .gone 0).view Im)=noView:=λi _=>by obtain⟨q,e⟩:=sT i;rw[e];rfl
 refine Inv.mk' h.pos (by rw[if_pos h.pos];exact h.k0) h.d0 (λi x hi hx=> ?_) ?_ ?_ ?_
 ·have hlt:i<gs.size:=(SU.1 hx).1;obtain⟨q,hq,hy⟩:=dh i x hi hx;show (if i<gs.size then K i else .gone 0).is P c Wg Im [] _ x;rw[if_pos hlt,hq];exact hy
 ·have bi:Core (bF {V with role:=.fork c Wg []} Im (λi=>if i<gs.size then K i else .gone 0)) gs.size w t (rR none) (nb none gs.size ic K) ic n0 W0:=by
   refine(gN.role (i:=0) (V':={V with role:=.fork c Wg []}) h.pos (by rw[kR]) (by rw[kR])).congr λi hi=> ?_;by_cases eS:i=0
   ·subst eS;rw[bw];simp[bF]
   ·rw[a_ _ _ eS];simp[bF,eS,hi]
  refine⟨bi.sat,bi.dJ,?_,bi.tape,bi.os,bi.out,bi.old,bi.jh,bi.n0⟩;refine bi.ti.weaken (SR _) (λi l _ x=> .inl ⟨x.1,x.2.1,λz=>z.elim⟩) (λi l _ x=>⟨x.1,x.2.1,λz=>z.elim⟩) (λidx a ha dQ=> ?_);have hk:Wo t 0 idx:=by
   have xT:jM V a.loc:=by
    have zN:qG c Wg a.loc:=dQ;cases hl:a.loc with
    |cell ad=>rw[hl]at zN;have e:ad.block=Wg:=zN;exact⟨by rw[e];exact hW,by rw[e];exact od _⟩
    |obj r=>rw[hl]at zN;have e:r=c:=zN;show V.own r≠none;rw[e,hc];simp
    |_=>rw[hl]at zN;exact zN.elim
   exact gN.ti.kw 0 h.pos a.loc ⟨h.pos,by rw[kR];exact xT,λz=>z.elim⟩ idx a ha rfl
  refine⟨λ_ i hi=> ?_,λ_=>hk⟩;have cD:iR ⟨c,Wg,[],false⟩ gs.size 0 (λi=>if i<gs.size then K i else .gone 0) i:=hi;unfold iR at cD;rw[if_neg (by simp)]at cD;rcases cD with rfl|⟨_,e⟩
  ·exact hk
  ·obtain⟨q,eq⟩:=sT i;simp only[eq]at e;cases e
 ·have aQ:st=none:=gF;intro idx a ha hm;rcases mO idx a ha hm with z|z|⟨s,e,_⟩
  ·exact .inl z
  ·exact .inr (.inl z)
  ·rw[aQ]at e;cases e
 ·refine⟨(gZ hc).1,(gZ hxW).1,aE,(gZ hc).2,(gZ hxW).2,by simp,λi hi=> ?_,λi i' j _ _ _ _ b5=> ?_,λj S b1=>by simp at b1,?_⟩
  ·rw[mj i hi];exact⟨rfl,λ_=>rfl,rfl,λ_=>rfl,λe=>by obtain⟨q,eq⟩:=sT i;simp only[eq]at e;cases e⟩
  ·obtain⟨q,eq⟩:=sT i;simp only[eq]at b5;cases b5
  ·show if false=true then _ else _;rw[if_neg (by simp)];refine⟨hc,rfl,rfl,λi _ _=> .inr (sT i),by simp,?_⟩;have hz:∀N,sumTo N (λ_=>0)=0:=λN=>(by induction N with|zero=>rfl|succ N ih=>simp[sumTo,ih]);rw[Vl (g:=λ_=>0) λi _=>by obtain⟨q,eq⟩:=sT i;show (if i<gs.size then K i else GS.gone 0).cnt=0;rw[eq];rfl];exact hz _
theorem Inv.aqf(h:Inv P n0 W0 V gs w t K Im ic (some p) st)(aH:p.recv=true)(iD:V.deaf=0){g0 g':SH}{n:Nat}(aY:w.heap[p.c]?=some (.chan 0 #[] true n n false)) {y:Wd} (hy:y.g=0/\y.act=.recvClosed p.c):
  (∀S∈p.Ss,S=[])/\Inv P n0 W0 {V with role:=.plain} (gs.setIfInBounds 0 g') w (t++#[y]) K Im ic none none:=by
 obtain⟨dh,gN,mO,gF⟩:=h.out;obtain⟨a1,a2,a3,a4,a5,a6,a7,a8,a9,bT⟩:=gF;rw[if_pos aH]at bT;obtain⟨c1,c2,c3,s,c4,c5⟩:=bT;have xI:(∃pp n,s=.shut pp/\t.act? pp=some (.close p.c)/\t.heard pp/\w.heap[p.c]?=some (.chan 0 #[] true n n false))/\(sumTo gs.size λi=>(K i).late)=0/\(sumTo gs.size λi=>(K i).cnt)=0/\(K ic).shape=.gone 0:=by
  have no:¬∃n,w.heap[p.c]?=some (.chan 0 #[] false n n false):=λ⟨m,e⟩=>by rw[aY]at e;simp at e
  unfold Mode at c5;rcases c5 with m|m|m|m|m|m|m
  ·exact absurd m.1 no
  ·exact absurd m.1 no
  ·exact absurd m.1 no
  ·exact absurd m.1 no
  ·exact absurd m.1 no
  ·exact absurd m.1 no
  ·exact m
 obtain⟨⟨pp,n',rfl,m1,m2,_⟩,m3,m4,m5⟩:=xI;have sT:∀i,i<gs.size->∃q,K i=.gone q:=λi hi=>by
  have e1:(K i).cnt<=sumTo gs.size λi=>(K i).cnt:=WF (f:=λi=>(K i).cnt) hi;have e2:(K i).late<=sumTo gs.size λi=>(K i).late:=WF (f:=λi=>(K i).late) hi;rcases UZ i with rfl|eS
  ·exact⟨0,h.k0⟩
  ·have hc:=h.rT (i:=i) eS;have z1:(K i).cnt=0:=(by omega);have z2:(K i).late=0:=(by omega);clear e1 e2;cases lc:K i<;>rw[lc]at z1 z2 hc<;>first
    |exact⟨_,rfl⟩
    |(exfalso;simp[GS.cnt]at z1;done)
    |(exfalso;simp[GS.late]at z2;done)
    |(exfalso;have:=hc rfl;subst this;rw[lc]at m5;cases m5)
 have bV:jl p V:=⟨c1.1,c1.2.1,c1.2.2.1,c1.2.2.2⟩;have aT:UT t 0=0:=by rw[h.d0,iD]
 have nH:∀op∈(#[y]:Uk),op.act.touch?=none/\still op.act/\op.act.low w.heap.size/\(∀a,op.act≠ .mark (.release a))/\op.g=0:=by
  intro op au;simp only[TJ,SL,S4,or_false]at au;subst au;rw[hy.2];exact⟨rfl,⟨by simp,by simp⟩,a4,by simp,hy.1⟩
 have bx:∀i,UT (t++#[y]) i=UT t i:=λi=>Deaf_still λop au=>(nH op au).2.1;have aV:(gs.setIfInBounds 0 g').size=gs.size:=by simp
 refine⟨λS hS=> ?_,?_⟩
 ·obtain⟨j,hj⟩:=UO.1 hS;apply Tl;intro aE;obtain⟨i,e1,e2,e3⟩:=a9 j S hj aE;obtain⟨q,e⟩:=sT i e2;rw[e]at e3;cases e3
 ·refine Inv.mk' (by rw[aV];exact h.pos) h.k0 (by rw[bx];exact h.d0) (λi x hi hx=> ?_) ?_ ?_ rfl
  ·rw[SV (by omega)]at hx;have hlt:i<gs.size:=(SU.1 hx).1;obtain⟨q,e⟩:=sT i hlt;have hk:(K i).is P p.c p.Wg Im p.Ss (UT t i) x:=dh i x hi hx;rw[e]at hk;rw[bx];exact⟨q,e,hk⟩
  ·rw[aV];have h1:=(gN.role (i:=0) (V':={V with role:=.plain}) h.pos (by rw[kR]) (by rw[kR])).congr (D8:=bF {V with role:=.plain} Im K) λi hi=>by
    by_cases eS:i=0
    ·subst eS;rw[bw];simp[bF]
    ·rw[a_ _ _ eS];simp[bF,eS]
   have aa8:∀i l,i<gs.size->gJ (bF {V with role:=.plain} Im K i) l->¬qG p.c p.Wg l:=λi l hi hl=>by
    by_cases eS:i=0
    ·subst eS;have b':jl p (bF {V with role:=.plain} Im K 0):=(by simp only[bF,if_true];exact bV);exact b'.Aa hl
    ·obtain⟨q,e⟩:=sT i hi;have:bF {V with role:=.plain} Im K i=noView:=(by simp only[bF,eS,if_false,e];rfl);rw[this]at hl;exact afQ.Aa hl
   refine⟨h1.sat,h1.dJ,?_,h1.tape,h1.os,h1.out,h1.old,h1.jh,h1.n0⟩;have v9:=h1.ti.mute (u:=#[y]) (N':=gs.size) (rd':=λi l=>i<gs.size/\gJ (bF {V with role:=.plain} Im K i) l/\¬rR none l) (wr':=λi l=>i<gs.size/\jM (bF {V with role:=.plain} Im K i) l/\¬rR none l) (act':=nb (some p) gs.size ic K) (kH:=ic)
    (λop au=>(nH op au).1) (λop au=>(nH op au).2.2.1) (λop au=>by rw[(nH op au).2.2.2.2];exact h.pos) (SR _) (λop au=>(nH op au).2.2.2.1)
    (λi hi l hl idx a ha gD hw=>(h1.ti.kr i hi l ⟨hl.1,hl.2.1,aa8 i l hi hl.2.1⟩ idx a ha gD hw).app _) (λi hi l hl idx a ha gD=>(h1.ti.kw i hi l ⟨hl.1,hl.2.1,aa8 i l hi hl.2.1.rd⟩ idx a ha gD).app _)
    (λidx a ha dQ=>⟨λhp i hi=>((h1.ti.sp idx a ha dQ).1 hp i hi).app _,λhp=>((h1.ti.sp idx a ha dQ).2 hp).app _⟩)
   exact v9.weaken (SR _) (λ_ _ _ x=> .inl x) (λ_ _ _ x=>x) (λidx a _ hx=>hx.elim)
  ·have hr:Rest p.Wg t K ic st:=mO;rw[c4]at hr;intro idx a ha hm;have f_:=AA (λop au=>(nH op au).1) ha;obtain⟨op,au,_⟩:=UV f_;rcases hr idx a f_ hm with z|⟨z1,z2⟩|⟨s,hs,hx⟩
   ·exact .inl (z.app _)
   ·exact .inr (.inl ⟨z1,λz=>z2 ((Ws (TG au)).1 z)⟩)
   ·cases hs;exact .inl (agl m1 m2 hy aT hx)
theorem Inv.amW(h:Inv P n0 W0 V gs w t K Im ic (some p) st)(aH:p.recv=true)(x:SH):Inv P n0 W0 V (gs.setIfInBounds 0 x) w t K Im ic (some p) st:=by
 obtain⟨dh,gN,mO,gF⟩:=h.out;obtain⟨a1,a2,a3,a4,a5,a6,a7,a8,a9,bT⟩:=gF;have aV:(gs.setIfInBounds 0 x).size=gs.size:=by simp
 rw[if_pos aH]at bT;obtain⟨c1,c2,c3,s,c4,c5⟩:=bT;refine Inv.mk' (by rw[aV];exact h.pos) h.k0 h.d0 (λi z hi hz=> ?_) (by rw[aV];exact gN) mO ⟨a1,a2,a3,a4,a5,a6,a7,by rw[aV];exact a8,by rw[aV];exact a9,?_⟩
 ·rw[SV (by omega)]at hz;exact dh i z hi hz
 ·rw[if_pos aH];refine⟨c1,c2,by rw[aV];exact c3,s,c4,?_⟩;rw[aV];have e0:t=t++#[]:=by simp
  rw[e0];exact c5.keep (λ_=>rfl) rfl rfl λrz g hg=>by rw[SV (by omega)]at hg;exact rz g hg
end
def MJ (P:SJ)(Post:SP->Tq->Prop)(n0:Nat)(W0:Tq)(V:View)(g:SH):Prop:=
 g.status=.running/\∀gs w sl t K Im ic ph st,Inv P n0 W0 V gs w t K Im ic ph st->ve V.role ph->kx gs g->Ok P Post (crowd gs w sl) t
section
variable {P:SJ}{Post:SP->Tq->Prop}{n0:Nat}{W0:Tq}
def adP (P:SJ)(Post:SP->Tq->Prop)(gs:Array SH)(w:Tq)(sl:Option (Nat×Nat))(t:Uk):Prop:=
 (∃m' ops,runT P (crowd gs w sl) 0=(.next m',ops)/\Ok P Post m' (t++ops))\/∃o w' ops,runT P (crowd gs w sl) 0=(.ended o w',ops)/\∀w0 Dn,WZ P Post (crowd gs w0 Dn) o w' (t++ops)
theorem kx.pos{gs:Array SH}{g:SH}(h:kx gs g):∃(i:Nat)(x:SH),gs[i]?=some x/\x.status=.running:=by
 obtain⟨g0,h0,h1,_⟩:=h;exact⟨0,g0,h0,h1⟩
theorem MJ.iO{V:View}{g:SH}(hg:g.status=.running)(own:∀gs w sl t K Im ic ph st,Inv P n0 W0 V gs w t K Im ic ph st->ve V.role ph->kx gs g->adP P Post gs w sl t):MJ P Post n0 W0 V g:=by
 refine⟨hg,λgs w sl t K Im ic ph st h hr hm=> ?_⟩;generalize hN:gs.size=N;generalize hμ:((λj=>(K j).c_),flag gs ic)=μ;induction μ using(aa0 N).induction generalizing gs w sl t K st with
 |_ μ ih=>
  obtain⟨i,gi,d,oD,aM,bK,aQ⟩:=Z1 (P:=P) (w:=w) (sl:=sl) (h.awake (.inl hm)) hm.pos;have hd:=h.draw d;rcases UZ i with rfl|hi
  ·rcases own _ _ oD _ _ _ _ _ _ hd hr hm with⟨m',ops,h1,h2⟩|⟨o,w',ops,h1,h2⟩
   ·exact Ok.step (aQ.trans h1) h2
   ·exact Ok.end (aQ.trans h1) (h2 w sl)
  ·rcases hd.other (sl:=oD) (.inl hm) hi aM bK with⟨gs',w',ops,K',st',h1,h2,h3,h4,_,h5⟩|⟨p,_,_,jb⟩
   ·have oY:kx gs' g:=by
     cases ph with
     |none=>exact(h4 g 0 (by simp)).1 hm
     |some p=>exact(h4 g p.c (λq hq=>by cases hq;rfl)).1 hm
    exact Ok.step (aQ.trans h1) (ih _ (by rw[<- hμ,<- hN];exact h5) gs' w' oD _ K' st' h3 oY (by rw[h2,hN]) rfl)
   ·obtain⟨g0,h0,hs,_⟩:=hm;obtain⟨g1,z,h1,_⟩:=jb;rw[h1]at h0;cases h0;cases hs
theorem MJ.recv{V:View}{g:SH}{c Wg:Nat}{Ss:List (List Spec)}{z:SP}(jc:V.role=.recv c Wg Ss)(iD:V.deaf=0)(hg:g.status=.running)
  (lr:∀w,Sat V w->stepG P true g w=.comm g #[rcase c z] true (.recv true) w #[])
  (J1:∀(i:Nat) sp S v Im Ow,Ss[i]?=some (sp::S)->sp v Im Ow->(∀b,V.own b≠none->Ow b=none)->(∀b o,V.own b≠none->Im b o≠none->V.ab b o≠none)->(∃w,Sat V w/\(∀b o x,Im b o=some x->w.cell? ⟨b,o,none⟩=some x)/\∀b x,Ow b=some x->w.heap[b]?=some x)->
   MJ P Post n0 W0 (nK V Im Ow (.recv c Wg (Ss.set i S))) (T4 g (.tuple #[v,.bool true])))
  (J2:(∀S∈Ss,S=[])->MJ P Post n0 W0 {V with role:=.plain} (T4 g (.tuple #[z,.bool false]))):MJ P Post n0 W0 V g:=by
 have met:∀{gs w sl t K Im ic st i},Inv P n0 W0 V gs w t K Im ic (some ⟨c,Wg,Ss,true⟩) st->D5 P n0 W0 V gs w sl t Im ic ⟨c,Wg,Ss,true⟩ st g i->∀{m},stepT P m=runT P (crowd gs w sl) i->Ok P Post m t:=by
  rintro gs w sl t K Im ic st i _ ⟨gs',w',ops,K',j,sp,S,v,kT,Ow,h1,h2,h3,h4,h5,h6,h6',h7,h8⟩ m hm
  exact Ok.step (hm.trans h1) ((J1 j sp S v kT Ow h4 h5 h6 h6' h7).2 gs' w' sl _ K' Im ic _ st h8 rfl h3)
 refine⟨hg,λgs w sl t K Im ic ph st h hr hm=> ?_⟩;have gF:ph=some ⟨c,Wg,Ss,true⟩:=by rw[jc]at hr;exact hr
 subst gF
 suffices key:∀N μ gs w sl t K st,Inv P n0 W0 V gs w t K Im ic (some ⟨c,Wg,Ss,true⟩) st->gs.size=N->((λj=>(K j).c_),flag gs ic)=μ->(kx gs g\/(nV gs g c/\Calm gs/\yC w c))->Ok P Post (crowd gs w sl) t from key _ _ gs w sl t K st h rfl rfl (.inl hm)
 clear h hr hm;intro N μ;induction μ using(aa0 N).induction with
 |_ μ ih=>
  have A:∀gs w sl t K st,Inv P n0 W0 V gs w t K Im ic (some ⟨c,Wg,Ss,true⟩) st->gs.size=N->((λj=>(K j).c_),flag gs ic)=μ->nV gs g c->Calm gs->yC w c->Ok P Post (crowd gs w sl) t:=by
   intro gs w sl t K st h hN hμ jb sN ho;have p9:kx gs g\/∃p,some (Phase.mk c Wg Ss true)=some p/\p.recv=true/\V.deaf=0/\nV gs g p.c:=.inr ⟨_,rfl,rfl,iD,jb⟩;have alj:∃(i:Nat)(x:SH),gs[i]?=some x/\x.status=.running:=by
    obtain⟨i,x,_,h1,h2⟩:=h.aqj rfl ho sN;exact⟨i,x,h1,h2⟩
   obtain⟨i,gi,d,oD,aM,bK,aQ⟩:=Z1 (P:=P) (w:=w) (sl:=sl) (h.awake p9) alj;have hd:=h.draw d;have hi:0<i:=by
    rcases UZ i with rfl|hi
    ·obtain⟨g1,z1,h1,_⟩:=jb;rw[h1]at aM;cases aM;cases bK
    ·exact hi
   rcases hd.other (sl:=oD) p9 hi aM bK with⟨gs',w',ops,K',st',h1,h2,h3,h4,h5,h6⟩|⟨p,hp,uq,_⟩
   ·refine Ok.step (aQ.trans h1) (ih _ (by rw[<- hμ,<- hN];exact h6) gs' w' oD _ K' st' h3 (by rw[h2,hN]) rfl ?_);rcases(h4 g c (λq hq=>by cases hq;rfl)).2 jb ho with x|⟨x,y⟩
    ·exact .inl x
    ·exact .inr ⟨x,h5 g c jb sN,y⟩
   ·cases hp;exact met hd uq aQ
  intro gs w sl t K st h hN hμ oY;rcases oY with hm|⟨h1,h2,h3⟩
  ·obtain⟨i,gi,d,oD,aM,bK,aQ⟩:=Z1 (P:=P) (w:=w) (sl:=sl) (h.awake (.inl hm)) hm.pos;have hd:=h.draw d;rcases UZ i with rfl|hi
   ·
    obtain⟨g0,h0,oo,lh,iG,mM⟩:=hm;have fz:Sat V (w.at d):=(by have:=hd.core.sat 0 h.pos;rwa [kR]at this);have lq:stepG P (0==0) g0 (w.at d)=.comm g #[rcase c z] true (.recv true) (w.at d) #[]:=(by rw[<- lr _ fz];exact Xd lh iG mM _);have e0:(t++Ta 0 g0.frame.fn g0.frame.place #[])=t:=(by simp[Ta]);rcases hd.opens rfl with⟨n,gE⟩|⟨akw,⟨n,aY⟩,_⟩
    ·by_cases Sg:∃i j h' V₁ V₂ g1 v z1,0<i/\i<gs.size/\K i=.nQ j h' V₁ V₂ g1 v z1
     ·exact met hd (hd.ape (sl:=oD) rfl iD ⟨g0,h0,oo,lh,iG,mM⟩ (lr _ fz) Sg) aQ
     ·have offers:∀m x,0<m->gs[m]?=some x->x.status=.blocked->x.offers=none:=by
       intro m x iI hx hb;rcases GS.runs (show (K m).is P c Wg Im Ss (UT t m) x from h.is m x iI hx)with e|⟨e,_⟩|⟨j,h',V1,V2,g1,v,z1,e⟩|⟨_,_,e⟩
       ·rw[e]at hb;cases hb
       ·rw[e]at hb;cases hb
       ·exact absurd ⟨m,j,h',V1,V2,g1,v,z1,iI,(SU.1 hx).1,e⟩ Sg
       ·exact e
      have hw:=crowd_waits (P:=P) (sl:=oD) (i:=0) h0 lq (λcc iV=>by
       simp only[TJ,SL,S4,or_false]at iV;subst iV;refine ways_recv_none gE (partners_nil λm x hx=> ?_);rcases X7 gs 0 m x hx with⟨_,rfl⟩|⟨iI,jE⟩
       ·exact Zr _ _
       ·by_cases hb:x.status=.blocked
        ·unfold offersAt;simp[hb,offers m x (by omega) jE hb]
        ·exact UW hb _ _)
      refine Ok.step (aQ.trans hw) ?_;rw[e0];refine A _ (w.at d) oD t K st (hd.amW rfl _) (by simp[hN]) ?_ ⟨g,z,?_,rfl,rfl,rfl⟩ (λm x iI hx hb=> ?_) ⟨n,gE⟩
      ·rw[<- hμ];have fL:0<ic:=(by obtain⟨_,_,x,_⟩:=h.mode rfl;exact x);unfold flag;rw[SV (by omega)]
      ·rw[S_ h.pos]
      ·rw[SV (by omega)]at hx;exact offers m x iI hx hb
    ·have hp:partners (gs.setIfInBounds 0 ph) c true=[]:=partners_nil λm x hx=>by
      rcases X7 gs 0 m x hx with⟨_,rfl⟩|⟨iI,jE⟩
      ·exact Zr _ _
      ·have hlt:m<gs.size:=(SU.1 jE).1;rcases GS.runs (show (K m).is P c Wg Im Ss (UT t m) x from h.is m x (by omega) jE)with e|⟨e,_⟩|⟨j,h',V1,V2,g1,v,z1,e⟩|⟨_,eb,e⟩
       ·exact UW (by rw[e];simp) _ _
       ·exact UW (by rw[e];simp) _ _
       ·have:=akw m (by omega) hlt;rw[e]at this;cases this
       ·unfold offersAt;simp[eb,e]
     have hw:=crowd_recv_closed (P:=P) (sl:=oD) (i:=0) h0 lq aY hp;refine Ok.step (aQ.trans hw) ?_;rw[Yw,<- Xp,e0];obtain⟨hS,hinv⟩:=hd.aqf rfl iD (g0:=g0) (g':=T4 g (recvd true z false)) aY (y:={g:=0,fn:=g.frame.fn,pos:=g.frame.place,act:=.recvClosed c}) ⟨rfl,rfl⟩;exact(J2 hS).2 _ (w.at d) oD _ K Im ic none none hinv rfl ⟨T4 g (recvd true z false),by rw[S_ h.pos],rfl,rfl,rfl,rfl⟩
   ·rcases hd.other (sl:=oD) (.inl hm) hi aM bK with⟨gs',w',ops,K',st',h1,h2,h3,h4,_,h5⟩|⟨p,_,_,jb⟩
    ·exact Ok.step (aQ.trans h1) (ih _ (by rw[<- hμ,<- hN];exact h5) gs' w' oD _ K' st' h3 (by rw[h2,hN]) rfl (.inl ((h4 g c (λq hq=>by cases hq;rfl)).1 hm)))
    ·obtain⟨g0,h0,hs,_⟩:=hm;obtain⟨g1,z1,h1,_⟩:=jb;rw[h1]at h0;cases h0;cases hs
  ·exact A gs w sl t K st h hN hμ h1 h2 h3
theorem ana:Closed true P true (MJ P Post n0 W0)where
 step V g hs h:=by
  refine MJ.iO hs λgs w sl t K Im ic ph st hI hr ⟨g0,h0,oo,lh,iG,mM⟩=> .inl ?_;have fz:Sat V w:=by have:=hI.core.sat 0 hI.pos;rwa [kR]at this
  obtain⟨g',w',es,V',h1,h2,h3⟩:=h w fz;have aQ:stepG P (0==0) g0 w=.go g' w' es:=by rw[<- h1];exact Xd lh iG mM w
  refine⟨_,_,runT_crowd_go h0 aQ,h3.2 _ w' sl _ K Im ic ph st (hI.aaS h0 h2 hr) (by rw[h2.role];exact hr) ⟨g',?_,h3.1,rfl,rfl,rfl⟩⟩;rw[S_ (by simpa using hI.pos)]
 ghost V V' g hg h:=⟨h.1,λgs w sl t K Im ic ph st hI hr hm=>h.2 gs w sl t K Im ic ph st (hI.amV hg hr) (by rw[hg.role];exact hr) hm⟩
 send V g c Wg sp S v z B hr hd hs ho h1 h2 h3:=⟨hs,λgs w sl t K Im ic ph st hI ce hm=>by rw[hr]at ce;exact ce.elim⟩
 done V g c Wg hr hd h1:=⟨h1.1,λgs w sl t K Im ic ph st hI ce hm=>by rw[hr]at ce;exact ce.elim⟩
 slip V g g' c Wg hr hs h1 h2:=⟨hs,λgs w sl t K Im ic ph st hI ce hm=>by rw[hr]at ce;exact ce.elim⟩
 more _:={
  start:=λV g c Wg hr aE hc hW od h=>⟨h.1,λgs w sl t K Im ic ph st hI ce hm=>by
   rw[hr]at ce;cases ce;exact h.2 gs w sl t _ Im 0 _ _ (hI.begin aE hc hW od) rfl hm⟩
  EJ:=λV g g' child c Wg Ss sp S hr hd hs hc hW hlen od aQ eX Lf h=>by
   refine MJ.iO hs λgs w sl t K Im ic ph st hI ce ⟨g0,h0,oo,lh,iG,mM⟩=> .inl ?_;rw[hr]at ce;cases ce;have fz:Sat V w:=(by have:=hI.core.sat 0 hI.pos;rwa [kR]at this);have lN:stepG P (0==0) g0 w=.spawn g' child w #[]:=(by rw[<- aQ w fz];exact Xd lh iG mM w);obtain⟨hh,hk⟩:=Lf _ (arT P);have bK:=ac' (P:=P) (sl:=sl) h0 lN;have e0:Ta 0 g0.frame.fn g0.frame.place #[]=#[]:=rfl;rw[e0]at bK;have hinv:=hI.EJ (g':=g') (x:={g:=0,fn:=g0.frame.fn,pos:=g0.frame.place,act:=.go gs.size}) (y:={g:=gs.size,fn:=child.frame.fn,pos:=g0.frame.place,act:=.start}) rfl hd ⟨rfl,rfl⟩ ⟨rfl,rfl⟩ hlen od hk;exact⟨_,_,bK,h.2 _ w sl _ _ Im ic _ _ hinv rfl ⟨g',by rw[Xh,if_neg (by simp;have:=hI.pos;omega),S_ hI.pos],h.1,rfl,rfl,rfl⟩⟩
  EI:=λV g g' child c Wg Ss hr hd hs aE hc hW zn od aQ eX aY h=>by
   refine MJ.iO hs λgs w sl t K Im ic ph st hI ce ⟨g0,h0,oo,lh,iG,mM⟩=> .inl ?_;rw[hr]at ce;cases ce;have fz:Sat V w:=(by have:=hI.core.sat 0 hI.pos;rwa [kR]at this);have lN:stepG P (0==0) g0 w=.spawn g' child w #[]:=(by rw[<- aQ w fz];exact Xd lh iG mM w);obtain⟨n,hk⟩:=aY;have bK:=ac' (P:=P) (sl:=sl) h0 lN;have e0:Ta 0 g0.frame.fn g0.frame.place #[]=#[]:=rfl;rw[e0]at bK;have hinv:=hI.EI (g':=g') (x:={g:=0,fn:=g0.frame.fn,pos:=g0.frame.place,act:=.go gs.size}) (y:={g:=gs.size,fn:=child.frame.fn,pos:=g0.frame.place,act:=.start}) rfl hd ⟨rfl,rfl⟩ ⟨rfl,rfl⟩ hW od hk;exact⟨_,_,bK,h.2 _ w sl _ _ V.ab gs.size _ _ hinv rfl ⟨g',by rw[Xh,if_neg (by simp;have:=hI.pos;omega),S_ hI.pos],h.1,rfl,rfl,rfl⟩⟩
  recv:=λV g c Wg Ss z hr hd hs ho aQ j1 j2=>MJ.recv hr hd hs aQ j1 j2}
structure Left (n0:Nat)(W0 w:Tq):Prop where
 tape:w.tape=W0.tape
 os:w.os=W0.os
 out:w.output=W0.output
 old:∀b,b<n0->w.heap[b]?=W0.heap[b]?
 size:n0<=w.heap.size
theorem Inv.Jq{V:View}{gs:Array SH}{w:Tq}{t:Uk}{K:Nat->GS}{Im:cx}{ic:Nat}{st:Option eo}(h:Inv P n0 W0 V gs w t K Im ic none st){v:SP}(hp:Post v w)(w0:Tq)(Dn:Option (Nat×Nat)):WZ P Post (crowd gs w0 Dn) (.done v) w t:=by
 obtain⟨dh,gN,mO,aQ⟩:=h.out;have lN:st=none:=aQ;refine⟨v,rfl,hp,gN.ti.nr,?_,⟨?_,rfl⟩,?_⟩
 ·intro i g hg oo ⟨x,hx,hm,hk⟩;rcases mO i x hx hm with⟨q,z,h1,h2,h3⟩|⟨h1,h2⟩|⟨_,h1,_⟩
  ·rcases h3 with rfl|h3
   ·exfalso;simp only[WC,h1,UM,Tn]at hg;omega
   ·exact⟨q,by simp[WC,h1,h2],h3⟩
  ·rcases hk with hk|hk
   ·exact absurd h1 hk
   ·exact absurd hk h2
  ·rw[lN]at h1;cases h1
 ·intro g hg;obtain⟨i,hi⟩:=UO.1 hg;rw[Um]at hi;have cD:gs[1+i]?=some g:=by simpa[crowd]using hi
  obtain⟨q,_,hq⟩:=dh (1+i) g (by omega) cD;exact⟨q,hq.leaves⟩
 ·intro i g hi eS;obtain⟨q,_,hq⟩:=dh i g (by omega) hi;exact⟨q,hq.hears _⟩
theorem MJ.end{V:View}{g:SH}(hg:g.status=.running)(hr:V.role=.plain)
  (h:∀w,Sat V w->Left n0 W0 w->(∀b,b<n0->V.own b=none)->∃v w' es V',stepG P true g w=.ended (.done v) w' es/\dc V w V' w' es/\Post v w'):MJ P Post n0 W0 V g:=by
 refine MJ.iO hg λgs w sl t K Im ic ph st hI ce ⟨g0,h0,oo,lh,iG,mM⟩=> .inr ?_;have gN:=hI.out.2.1;have fz:Sat V w:=by have:=hI.core.sat 0 hI.pos;rwa [kR]at this
 obtain⟨v,w',es,V',h1,h2,h3⟩:=h w fz ⟨gN.tape,gN.os,gN.out,gN.old,gN.n0⟩ (λb hb=>by have:=gN.jh 0 hI.pos b hb;rwa [kR]at this);have aQ:stepG P (0==0) g0 w=.ended (.done v) w' es:=by rw[<- h1];exact Xd lh iG mM w
 refine⟨_,w',_,runT_crowd_ended h0 aQ,λw0 Dn=> ?_⟩;have gF:ph=none:=by rw[hr]at ce;exact ce
 subst gF;have hinv:=hI.aaS (g':=g0) h0 h2 ce;have sR:=hinv.Jq (Post:=Post) h3 w0 Dn;obtain⟨v',e,hp,hn,hh,hl,hd⟩:=sR;refine⟨v',e,hp,hn,hh,⟨?_,rfl⟩,?_⟩
 ·intro g zu;obtain⟨i,hi⟩:=UO.1 zu;rw[Um]at hi;have cD:gs[1+i]?=some g:=by simpa[crowd]using hi
  obtain⟨q,_,hq⟩:=hI.out.1 (1+i) g (by omega) cD;exact⟨q,hq.leaves⟩
 ·intro i g hi eS;obtain⟨q,_,hq⟩:=hI.out.1 i g (by omega) hi;refine⟨q,?_⟩;have:(t++Ta 0 g0.frame.fn g0.frame.place es).deaf i (t++Ta 0 g0.frame.fn g0.frame.place es).size=UT t i:=
   atS t (g:=i) (g':=0) (by omega) _ λop au=>by obtain⟨e,_,rfl⟩:=TL au;rfl
  rw[this];exact hq.hears _
theorem Inv.init(W:Tq){V:View}(ho:V.own=λ_=>none)(hd:V.deaf=0)(hs:Sat V W)(g:SH):Inv P W.heap.size W V #[g] W #[] (λ_=> .gone 0) V.ab 0 none none:=by
 have fO:∀i,i<(1:Nat)->bF V V.ab (λ_=> .gone 0) i=V:=λi hi=>by
  obtain rfl:i=0:=by omega
  simp[bF]
 refine Inv.mk' (by simp) rfl (by rw[hd];rfl) (λi x hi hx=> ?_) ⟨λi hi=>by rw[fO i hi];exact hs,λi j hi hj kg=> ?_,?_,rfl,rfl,rfl,λ_ _=>rfl,λi hi b _=>by rw[fO i hi,ho],SR _⟩ ?_ rfl
 ·exfalso;have:=(SU.1 hx).1;simp at this;omega
 ·simp at hi hj;omega
 ·refine⟨λsaid hr=> ?_,by simp,by simp,by simp,λi _ l _ idx a ha=> ?_,λi _ l _ idx a ha=> ?_,λidx a ha=> ?_⟩
  ·obtain⟨i,j,_,⟨a,b,ha,_⟩,_⟩:=hr;obtain⟨op,au,_⟩:=UV ha;simp at au
  ·obtain⟨op,au,_⟩:=UV ha;simp at au
  ·obtain⟨op,au,_⟩:=UV ha;simp at au
  ·obtain⟨op,au,_⟩:=UV ha;simp at au
 ·intro idx a ha _;obtain⟨op,au,_⟩:=UV ha;simp at au
theorem ajf{f:TO}{args:Array SP}{W:Tq}{V:View}{R:Out->View->Prop}(hi:P.inits.idxOf? f=none)(ho:V.own=λ_=>none)(hd:V.deaf=0)(ce:V.role=.plain)(hs:Sat V W)(h:Body true P f args .normal V R)
  (hR:∀o V',R o V'->V'.role=.plain/\∃v,o=.ret v/\∀w,Sat V' w->Left W.heap.size W w->Post v w):
  ∃M last o w' t',runNT P (M+1) (solo (G (Frame.enter P f args .normal) []) W) #[]=(.ended o w',t')/\runN P M (solo (G (Frame.enter P f args .normal) []) W)=.next last/\step P last=.ended o w'/\WZ P Post last o w' t':=by
 have hJ:MJ P Post W.heap.size W V (G (Frame.enter P f args .normal) []):=by
  refine h true _ ana [] λo V' fr r hl=> ?_;obtain⟨hr,v,rfl,hp⟩:=hR _ _ r;obtain⟨rfl,bx,hk,fn,hf,hm,gn⟩:=hl;refine MJ.end rfl hr λw hw zD hold=> ?_;obtain⟨es,w',aS,h1,h2,h3⟩:=gn.runs hw;rcases h3 with⟨x,h3,rfl,rfl⟩|⟨_,_,hx⟩
  ·refine⟨x,w',seen P fr.fn es,aS,by simp[G,stepG,unwind,doReturn,hm,bx,hk,hf,h3,h2,T1,hi],h1.seen P fr.fn,?_⟩;refine hp w' h1.sat ⟨h1.tape.trans zD.tape,h1.os.trans zD.os,h1.output.trans zD.out,λb hb=> ?_,UB zD.size h1.size⟩;rw[h1.frame b (Te hb zD.size) (hold b hb)];exact zD.old b hb
  ·exact hx.elim
 exact hJ.2 #[_] W none #[] _ _ _ none none (Inv.init W ho hd hs _) (by rw[ce];rfl) ⟨_,rfl,rfl,rfl,rfl,rfl⟩
end
def gq (P:SJ)(main:Bool)(g:SH):SH:=match stepG P main g default with
 |.go g' _ _=>g'
 |_=>g
def Ab (P:SJ)(main:Bool)(g:SH):Array Uo:=match stepG P main g default with
 |.go _ _ es=>es
 |_=>#[]
def cF (P:SJ)(main:Bool):Nat->SH->SH
 |0,g=>g
 |n+1,g=>cF P main n (gq P main g)
def fG (P:SJ)(main:Bool)(w:Tq):Nat->SH->List ZI
 |0,_=>[]
 |n+1,g=>stepG P main g w::fG P main w n (gq P main g)
def fC (P:SJ)(main:Bool)(w:Tq):Nat->SH->List ZI
 |0,_=>[]
 |n+1,g=> .go (gq P main g) w (Ab P main g)::fC P main w n (gq P main g)
def bO (g:SH):Bool:=match g.status with
 |.running=>true
 |_=>false
theorem bO.out{g:SH}(h:bO g=true):g.status=.running:=by
 unfold bO at h;split at h
 ·assumption
 ·cases h
def iK (P:SJ)(main:Bool):Nat->SH->Bool
 |0,_=>true
 |n+1,g=>bO g&&(Ab P main g).all WI&&iK P main n (gq P main g)
def oA (P:SJ)(main:Bool):Nat->SH->Bool
 |0,_=>true
 |n+1,g=>bO g&&(Ab P main g).isEmpty&&oA P main n (gq P main g)
def jP (P:SJ)(main:Bool):Nat->Nat->SH->Nat
 |0,d,_=>d
 |n+1,d,g=>jP P main n (deafBehind d (Ab P main g)) (gq P main g)
section
variable {P:SJ}
theorem Mf{n:Nat}{main:Bool}{g:SH}(h:iK P main (n+1) g=true):g.status=.running/\(∀e∈Ab P main g,WI e=true)/\iK P main n (gq P main g)=true:=by
 simp only[iK,Tc]at h;exact⟨bO.out h.1.1,λe he=>UH.1 h.1.2 e he,h.2⟩
theorem wA{Stop:Nat->SH->Prop}:∀(n d:Nat)(g:SH),(∀w,fG P false w n g=fC P false w n g)->iK P false n g=true->(∃m,cQ P Stop m (jP P false n d g) (cF P false n g))->∃m,cQ P Stop m d g
 |0,d,g,_,_,hs=>hs
 |n+1,d,g,h,hm,hs=>by
  obtain⟨h1,h2,h3⟩:=Mf hm;obtain⟨m,hm⟩:=wA n _ (gq P false g) (λw=>(Vw (h w)).2) h3 hs;exact⟨m+1,.inr ⟨h1,_,_,h2,λw=>(Vw (h w)).1,hm⟩⟩
theorem acw{Wg:Nat}{Stop:Nat->SH->Prop}:∀(n d:Nat)(g:SH),(∀w,fG P false w n g=fC P false w n g)->iK P false n g=true->(∃m,gU P Wg Stop m (jP P false n d g) (cF P false n g))->∃m,gU P Wg Stop m d g
 |0,d,g,_,_,hs=>hs
 |n+1,d,g,h,hm,hs=>by
  obtain⟨h1,h2,h3⟩:=Mf hm;obtain⟨m,hm⟩:=acw n _ (gq P false g) (λw=>(Vw (h w)).2) h3 hs;exact⟨m+1,.inr ⟨h1,_,_,h2,λw _ _ _=>(Vw (h w)).1,hm⟩⟩
theorem acx{Wg:Nat}{Stop:Nat->SH->Prop}{d:Nat}{g g':SH}(hr:g.status=.running)(h:∀w x y,WgAt P Wg w x y->stepG P false g w=.go g' w #[]) (hs:∃m,gU P Wg Stop m d g'):∃m,gU P Wg Stop m d g:=by
 obtain⟨m,hm⟩:=hs;exact⟨m+1,.inr ⟨hr,g',#[],by simp,h,by simpa[deafBehind]using hm⟩⟩
theorem GW:∀(n d:Nat)(g:SH),(∀w,fG P false w n g=fC P false w n g)->iK P false n g=true->(∃q,Y_ P q (jP P false n d g) (cF P false n g))->∃q,Y_ P q d g
 |0,d,g,_,_,hs=>hs
 |n+1,d,g,h,hm,hs=>by
  obtain⟨h1,h2,h3⟩:=Mf hm;obtain⟨m,hm⟩:=GW n _ (gq P false g) (λw=>(Vw (h w)).2) h3 hs;exact⟨m+1,.inr ⟨h1,_,_,h2,λw=>(Vw (h w)).1,hm⟩⟩
theorem MV{d:Nat}{g:SH}(h:g.status=.finished)(hd:d=0):∃q,Y_ P q d g:=⟨0,h,hd⟩
theorem apa{n:Nat}{main:Bool}{g:SH}(h:oA P main (n+1) g=true):g.status=.running/\Ab P main g=#[]/\oA P main n (gq P main g)=true:=by
 simp only[oA,Tc]at h;exact⟨bO.out h.1.1,by simpa using h.1.2,h.2⟩
theorem th{lv main:Bool}{J:View->SH->Prop}(C:Closed lv P main J){V:View}:∀(n:Nat)(g:SH),(∀w,fG P main w n g=fC P main w n g)->oA P main n g=true->J V (cF P main n g)->J V g
 |0,g,_,_,hs=>hs
 |n+1,g,h,hm,hs=>by
  obtain⟨h1,h2,h3⟩:=apa hm;refine C.idle h1 (λw=> ?_) (th C n (gq P main g) (λw=>(Vw (h w)).2) h3 hs);rw[(Vw (h w)).1,h2]
theorem Closed.mute{lv main:Bool}{J:View->SH->Prop}(C:Closed lv P main J){V:View}{g g':SH}{m:Mark}(hm:m=.disable\/m=.enable)(hr:g.status=.running)(h:∀w,stepG P main g w=.go g' w #[⟨.mark m,false,true⟩]) (hJ:J {V with deaf:=deafBehind V.deaf #[⟨.mark m,false,true⟩]} g'):J V g:=by
 refine C.step _ _ hr λw hw=> ?_;have hs:=ap3 (P:=P) (V:=V) (k:=(.pure ():Sem Unit)) (K:=λ_ V'=>V'={V with deaf:=deafBehind V.deaf #[⟨.mark m,false,true⟩]}) (Kp:=λ_ _=>False) hm (cG rfl);obtain⟨es,w',V',k1,k2,k3⟩:=hs.runs hw;rcases k3 with⟨x,k3,rfl⟩|⟨_,_,hx⟩
 ·have e1:Yg () w=Yg x w':=k3;have e2:es=#[⟨.mark m,false,true⟩]:=k2.symm;cases e1;subst e2;refine⟨g',w,_,_,h w,?_,hJ⟩;rwa [tr (by rcases hm with rfl|rfl<;>simp)]at k1
 ·exact hx.elim
def ready (g:SH):Option Tx:=match g with
 |{frame:={fn:=_,tmps,todo:=.inRegion ops (i::_)::_,defers:=_,mode:=.run,kind,roundOf:=none},callers:=_,status:=.running,dying:=none,offers:=none}=>
  match ops[i]?with
  |some o=>if Tj o (yielded ops tmps)&& !(kind== .early)then some o else none
  |none=>none
 |_=>none
def fin (g:SH)(v:SP):SH:={g with frame:=g.frame.finish v}
theorem ready.out{g:SH}{o:Tx}(h:ready g=some o):∃(b:T_)(a:Act)(ops:Array Tx)(i:Nat)(rest:List Nat)(k:List WU)(cs:List T_),g=G (b.at a (.inRegion ops (i::rest)::k)) cs/\ops[i]?=some o/\Tj o (yielded ops a.tmps)=true/\b.kind≠ .early/\a.eval=g.frame.eval/\
  (∀v,G (b.at (a.put o.dst v) (.inRegion ops rest::k)) cs=fin g v)/\b.fn=g.frame.fn/\g.status=.running:=by
 unfold ready at h;split at h
 ·rename_i fn tmps ops i rest k defers kind cs;split at h
  ·rename_i o' ho;split at h
   ·rename_i hw;cases h;simp only[Tc,TV,beq_eq_false_iff_ne,ne_eq]at hw;refine⟨{(default:T_)with fn,kind},⟨tmps,defers⟩,ops,i,rest,k,cs,rfl,ho,hw.1,hw.2,?_,λv=> ?_,rfl,rfl⟩
    ·funext x;cases x<;>rfl
    ·unfold fin;have:=Frame.finish_at {(default:T_)with fn,kind} ⟨tmps,defers⟩ ops i rest k v;rw[ho]at this;simp only[Frame.at,Option.bind_some]at this⊢;rw[this];rfl
   ·cases h
  ·cases h
 ·cases h
def cr (g:SH):Option (TO×Array SP):=match ready g with
 |some {op:=.call {callee:=.value (.func f),args, .. }, .. }=>some (f,args.map g.frame.eval)
 |_=>none
theorem cr.out{g:SH}{f:TO}{vs:Array SP}(h:cr g=some (f,vs)):∃o aG l6,ready g=some o/\o.op=.call {callee:=.value (.func f),args:=aG,argTypes:=l6}/\aG.map g.frame.eval=vs:=by
 unfold cr at h;split at h
 ·rename_i f' aG l6 dst ty pos af gd ho;cases h;exact⟨_,_,_,ho,rfl,rfl⟩
 ·cases h
structure Ext (P:SJ)(f:TO)(e:Array SP->Sem SP):Prop where
 fn : ∃ fn, P.funcs[f]? = some fn /\ (fn.name == "runtime.NumGoroutine") = false /\ fn.body.isNone = true /\ Extern.findNext fn = none /\ Extern.find fn = some e
variable {main:Bool}{g:SH}{f:TO}{w:Tq}
theorem acC{v d:Int}{k:TU}{ad:U3}(h:cr g=some (f,#[.pointer (some ad),.int k d])) (he:Ext P f (XP (atZ .add) k true)) (hc:w.cell? ad=some (.int k v)) (hz:w.frozen? ad=false):
  stepG P main g w=.go (fin g (.int k (k.wrap (v+d)))) (w.setCell ad (.int k (k.wrap (v+d)))) #[⟨.cell ad,false,true⟩,⟨.cell ad,true,true⟩]:=by
 obtain⟨o,aG,l6,h1,h2,h3⟩:=cr.out h;obtain⟨b,a,ops,i,rest,kk,cs,e,q1,q2,q3,q4,q5,q6,_⟩:=ready.out h1;obtain⟨fn,f1,f2,f3,f4,f5⟩:=he.fn;rw[<- q4]at h3;rw[<- q5];refine VK (congrArg (λx=>stepG P main x w) e) ?_;exact ZJ q1 q2 q3 h2 f1 f2 f3 f4 f5 (by rw[h3];exact run_add_entry hc hz) (by rw[h3,events_add_entry hc hz];rfl) (sync_rw ad)
theorem Nc{v:Int}{k:TU}{ad:U3}(h:cr g=some (f,#[.pointer (some ad)])) (he:Ext P f (XY (.int k))) (hc:w.cell? ad=some (.int k v)):
  stepG P main g w=.go (fin g (.int k v)) w #[⟨.cell ad,false,true⟩]:=by
 obtain⟨o,aG,l6,h1,h2,h3⟩:=cr.out h;obtain⟨b,a,ops,i,rest,kk,cs,e,q1,q2,q3,q4,q5,q6,_⟩:=ready.out h1;obtain⟨fn,f1,f2,f3,f4,f5⟩:=he.fn;rw[<- q4]at h3;rw[<- q5];refine VK (congrArg (λx=>stepG P main x w) e) ?_;obtain⟨x,rfl⟩:∃x,aG=#[x]:=by
  have:aG.size=1:=by have:=congrArg ae_ h3;simpa using this
  exact Array.size_eq_one_iff.1 this
 exact stepG_load_atomic q1 q2 q3 h2 f1 f2 f3 f4 k f5 (by simpa using h3) hc
theorem aqA{v:Int}{u:SP}{k:TU}{ad:U3}(h:cr g=some (f,#[.pointer (some ad),.int k v])) (he:Ext P f XQ) (hc:w.cell? ad=some u) (hz:w.frozen? ad=false):
  stepG P main g w=.go (fin g (.tuple #[])) (w.setCell ad (.int k v)) #[⟨.cell ad,true,true⟩]:=by
 obtain⟨o,aG,l6,h1,h2,h3⟩:=cr.out h;obtain⟨b,a,ops,i,rest,kk,cs,e,q1,q2,q3,q4,q5,q6,_⟩:=ready.out h1;obtain⟨fn,f1,f2,f3,f4,f5⟩:=he.fn;rw[<- q4]at h3;rw[<- q5];refine VK (congrArg (λx=>stepG P main x w) e) ?_;obtain⟨x,y,rfl⟩:∃x y,aG=#[x,y]:=by
  have:aG.toList.length=2:=by have:=congrArg ae_ h3;simpa using this
  obtain⟨l⟩:=aG
  match l,this with
  |[x,y],_=>exact⟨x,y,rfl⟩
 have vF:a.eval x=.pointer (some ad)/\a.eval y=.int k v:=by simpa using h3
 exact stepG_store_atomic q1 q2 q3 h2 f1 f2 f3 f4 f5 vF.1 vF.2 hc hz
theorem aqt{v n:Int}{k:TU}{ad:U3}(h:cr g=some (f,#[.pointer (some ad),.int k v,.int k n])) (he:Ext P f (WV (.int k))) (hc:w.cell? ad=some (.int k v)) (hz:w.frozen? ad=false):
  stepG P main g w=.go (fin g (.bool true)) (w.setCell ad (.int k n)) #[⟨.cell ad,false,true⟩,⟨.cell ad,true,true⟩]:=by
 obtain⟨o,aG,l6,h1,h2,h3⟩:=cr.out h;obtain⟨b,a,ops,i,rest,kk,cs,e,q1,q2,q3,q4,q5,q6,_⟩:=ready.out h1;obtain⟨fn,f1,f2,f3,f4,f5⟩:=he.fn;rw[<- q4]at h3;rw[<- q5];refine VK (congrArg (λx=>stepG P main x w) e) ?_;exact ZJ q1 q2 q3 h2 f1 f2 f3 f4 f5 (by rw[h3,Z6];exact run_cas_hit_entry hc hz) (by rw[h3,Z6,events_cas_hit_entry hc hz];rfl) (sync_rw ad)
theorem aqu{v old n:Int}{k:TU}{ad:U3}(h:cr g=some (f,#[.pointer (some ad),.int k old,.int k n])) (he:Ext P f (WV (.int k))) (hc:w.cell? ad=some (.int k v)) (hz:w.frozen? ad=false) (aE:¬v=old):
  stepG P main g w=.go (fin g (.bool false)) w #[⟨.cell ad,false,true⟩]:=by
 obtain⟨o,aG,l6,h1,h2,h3⟩:=cr.out h;obtain⟨b,a,ops,i,rest,kk,cs,e,q1,q2,q3,q4,q5,q6,_⟩:=ready.out h1;obtain⟨fn,f1,f2,f3,f4,f5⟩:=he.fn;rw[<- q4]at h3;rw[<- q5];refine VK (congrArg (λx=>stepG P main x w) e) ?_;exact ZJ q1 q2 q3 h2 f1 f2 f3 f4 f5 (by rw[h3,Z6];exact run_cas_miss_entry hc hz aE) (by rw[h3,Z6,events_cas_miss_entry hc hz aE];rfl) (sync_r ad)
theorem aqy{n:Int}{x y:SP}{ad:U3}(h:cr g=some (f,#[.pointer (some ad),x,y])) (he:Ext P f XO) (hc:w.cell? ad=some (.int .u32 n)) (hz:w.frozen? ad=false):
  stepG P main g w=.go (fin g (.tuple #[])) (w.setCell ad (.int .u32 (al'.wrap (n+1)))) (semEvents ad):=by
 obtain⟨o,aG,l6,h1,h2,h3⟩:=cr.out h;obtain⟨b,a,ops,i,rest,kk,cs,e,q1,q2,q3,q4,q5,q6,_⟩:=ready.out h1;obtain⟨fn,f1,f2,f3,f4,f5⟩:=he.fn;rw[<- q4]at h3;rw[<- q5];refine VK (congrArg (λx=>stepG P main x w) e) ?_;exact stepG_semrelease q1 q2 q3 h2 f1 f2 f3 f4 f5 (by rw[h3];rfl) hc hz
theorem aqx{n:Int}{x:SP}{ad:U3}(h:cr g=some (f,#[.pointer (some ad),x])) (he:Ext P f WH) (hc:w.cell? ad=some (.int .u32 n)) (hn:n≠0) (hz:w.frozen? ad=false):
  stepG P main g w=.go (fin g (.tuple #[])) (w.setCell ad (.int .u32 (n-1))) (semEvents ad):=by
 obtain⟨o,aG,l6,h1,h2,h3⟩:=cr.out h;obtain⟨b,a,ops,i,rest,kk,cs,e,q1,q2,q3,q4,q5,q6,_⟩:=ready.out h1;obtain⟨fn,f1,f2,f3,f4,f5⟩:=he.fn;rw[<- q4]at h3;rw[<- q5];refine VK (congrArg (λx=>stepG P main x w) e) ?_;exact stepG_semacquire q1 q2 q3 h2 f1 f2 f3 f4 f5 (by rw[h3];rfl) hc hn hz
theorem aqz{x:SP}{ad:U3}(h:cr g=some (f,#[.pointer (some ad),x])) (he:Ext P f WH) (hc:w.cell? ad=some (.int .u32 0)):
  stepG P main g w=.go {g with status:=.blocked} w #[]:=by
 obtain⟨o,aG,l6,h1,h2,h3⟩:=cr.out h;obtain⟨b,a,ops,i,rest,kk,cs,e,q1,q2,q3,q4,q5,q6,_⟩:=ready.out h1;obtain⟨fn,f1,f2,f3,f4,f5⟩:=he.fn;rw[<- q4]at h3;rw[e];exact stepG_semacquire_wait q1 q2 h2 f1 f2 f3 f4 f5 (by rw[h3];rfl) hc
theorem Ha{ad:U3}(mk:U3->Mark)(hm:∀ad g,mk ad≠ .extern g)(h:cr g=some (f,#[.pointer (some ad)])) (he:Ext P f (VJ mk)):
  stepG P main g w=.go (fin g (.tuple #[])) w #[⟨.mark (mk ad),false,true⟩]:=by
 obtain⟨o,aG,l6,h1,h2,h3⟩:=cr.out h;obtain⟨b,a,ops,i,rest,kk,cs,e,q1,q2,q3,q4,q5,q6,_⟩:=ready.out h1;obtain⟨fn,f1,f2,f3,f4,f5⟩:=he.fn;rw[<- q4]at h3;rw[<- q5];refine VK (congrArg (λx=>stepG P main x w) e) ?_;exact stepG_markAt mk hm q1 q2 q3 h2 f1 f2 f3 f4 f5 (by rw[h3];rfl)
def oO (g:SH):Option (TypeId×TypeId×SP):=match ready g with
 |some {op:=.convert s d x, .. }=>some (s,d,g.frame.eval x)
 |_=>none
theorem Hb{src dst t:TypeId}{ad:U3}{v:SP}(h:oO g=some (src,dst,.pointer (some ad)))(hs:P.underlying src=some (.pointer t))(hd:P.underlying dst=some .unsafePointer)(aV:(P.info? t).map (λi=>decide (i.size=0))=some false)(hc:w.cell? ad=some v):
  stepG P main g w=.go (fin g (.pointer (some ad))) w #[]:=by
 obtain⟨o,x,h1,h2,h3⟩:∃o x,ready g=some o/\o.op=.convert src dst x/\g.frame.eval x=.pointer (some ad):=by
  unfold oO at h;split at h
  ·rename_i s d x _ _ _ _ ho;simp only[Tn,U0]at h;obtain⟨rfl,rfl,h⟩:=h;exact⟨_,x,ho,rfl,h⟩
  ·cases h
 obtain⟨b,a,ops,i,rest,kk,cs,e,q1,q2,q3,q4,q5,q6,_⟩:=ready.out h1;rw[<- q4]at h3;rw[<- q5];refine VK (congrArg (λx=>stepG P main x w) e) ?_;have hr:(execOp a.eval o).run P w=.ok (.value (.pointer (some ad))) w:=by
  unfold execOp;simp only[h2,h3];simp[run_convert_to_unsafe hs hd aV hc]
 have cu:(execOp a.eval o).events P w #[]=#[]:=by
  unfold execOp;simp only[h2,h3];simp[events_convert_to_unsafe hs hd aV hc]
 rw[atQ q1 q2 q3 hr];unfold listed;rw[cu,ac_]
end
open Go.Proofs
section
variable {P:SJ}
theorem M9{Stop:Nat->SH->Prop}{d:Nat}{g g':SH}{es:Array Uo}(hr:g.status=.running)(hm:∀e∈es,WI e=true)(h:∀w,stepG P false g w=.go g' w es)(hs:∃m,cQ P Stop m (deafBehind d es) g'):∃m,cQ P Stop m d g:=by
 obtain⟨m,hs⟩:=hs;exact⟨m+1,.inr ⟨hr,g',es,hm,h,hs⟩⟩
theorem G_{main:Bool}{g:SH}{f:TO}{w:Tq}{m:Mark}(hm:∀g,m≠ .extern g)(h:cr g=some (f,#[])) (he:Ext P f (λ_=>do ag_ m;pure W7)):stepG P main g w=.go (fin g (.tuple #[])) w #[⟨.mark m,false,true⟩]:=by
 obtain⟨o,xs,l6,h1,h2,h3⟩:=cr.out h;obtain⟨b,a,ops,i,rest,kk,cs,e,q1,q2,q3,q4,q5,q6,_⟩:=ready.out h1;obtain⟨fn,f1,f2,f3,f4,f5⟩:=he.fn;rw[<- q4]at h3;rw[<- q5];refine VK (congrArg (λx=>stepG P main x w) e) ?_;exact stepG_mark0 m hm q1 q2 q3 h2 f1 f2 f3 f4 f5
theorem acD{main:Bool}{g:SH}{f:TO}{w:Tq}{v:SP}{vs:Array SP}(h:cr g=some (f,vs))(he:Ext P f (λ_=>pure v)):stepG P main g w=.go (fin g v) w #[]:=by
 obtain⟨o,xs,l6,h1,h2,h3⟩:=cr.out h;obtain⟨b,a,ops,i,rest,kk,cs,e,q1,q2,q3,q4,q5,q6,_⟩:=ready.out h1;obtain⟨fn,f1,f2,f3,f4,f5⟩:=he.fn;rw[<- q5];refine VK (congrArg (λx=>stepG P main x w) e) ?_;exact stepG_entry_pure v q1 q2 q3 h2 f1 f2 f3 f4 f5
theorem WgAt.st{Wg:Nat}{w:Tq}{st sm:Int}(h:WgAt P Wg w st sm):w.cell? ⟨Wg,0,none⟩=some (.int .u64 st)/\w.cell? ⟨Wg,1,none⟩=some (.int .u32 sm)/\w.frozen? ⟨Wg,0,none⟩=false/\w.frozen? ⟨Wg,1,none⟩=false:=by
 unfold WgAt wgBlock at h;refine⟨?_,?_,?_,?_⟩<;>simp[Ux,ZW,h]
theorem Mg{m:Mark}(hm:m=.disable\/m=.enable):∀e∈(#[⟨.mark m,false,true⟩]:Array Uo),WI e=true:=by
 intro e he;simp only[TJ,SL,S4,or_false]at he;subst he;rcases hm with rfl|rfl<;>rfl
end
set_option maxRecDepth 100000
theorem agQ:Ext SC 110 (VJ .releaseMerge):=⟨⟨Tryz.f110,by kernel_rfl,by kernel_rfl,by kernel_rfl,by kernel_rfl,by kernel_rfl⟩⟩
theorem IP:Ext SC 111 (λ_=>do ag_ .disable;pure W7):=⟨⟨Tryz.f111,by kernel_rfl,by kernel_rfl,by kernel_rfl,by kernel_rfl,by kernel_rfl⟩⟩
theorem agR:Ext SC 112 (λ_=>do ag_ .enable;pure W7):=⟨⟨Tryz.f112,by kernel_rfl,by kernel_rfl,by kernel_rfl,by kernel_rfl,by kernel_rfl⟩⟩
theorem Pu:Ext SC 113 (λ_=>pure (.bool false)):=⟨⟨Tryz.f113,by kernel_rfl,by kernel_rfl,by kernel_rfl,by kernel_rfl,by kernel_rfl⟩⟩
theorem agS:Ext SC 118 (VJ .read):=⟨⟨Tryz.f118,by kernel_rfl,by kernel_rfl,by kernel_rfl,by kernel_rfl,by kernel_rfl⟩⟩
theorem agT:Ext SC 122 XO:=⟨⟨Tryz.f122,by kernel_rfl,by kernel_rfl,by kernel_rfl,by kernel_rfl,by kernel_rfl⟩⟩
theorem agU:Ext SC 123 (VJ .acquire):=⟨⟨Tryz.f123,by kernel_rfl,by kernel_rfl,by kernel_rfl,by kernel_rfl,by kernel_rfl⟩⟩
theorem agV:Ext SC 126 (VJ .write):=⟨⟨Tryz.f126,by kernel_rfl,by kernel_rfl,by kernel_rfl,by kernel_rfl,by kernel_rfl⟩⟩
theorem Pv:Ext SC 127 WH:=⟨⟨Tryz.f127,by kernel_rfl,by kernel_rfl,by kernel_rfl,by kernel_rfl,by kernel_rfl⟩⟩
theorem Pw:Ext SC 134 (XP (atZ .add) .u64 true):=⟨⟨Tryz.f134,by kernel_rfl,by kernel_rfl,by kernel_rfl,by kernel_rfl,by kernel_rfl⟩⟩
theorem IQ:Ext SC 135 (XY (.int .u64)):=⟨⟨Tryz.f135,by kernel_rfl,by kernel_rfl,by kernel_rfl,by kernel_rfl,by kernel_rfl⟩⟩
theorem agW:Ext SC 136 XQ:=⟨⟨Tryz.f136,by kernel_rfl,by kernel_rfl,by kernel_rfl,by kernel_rfl,by kernel_rfl⟩⟩
theorem Px:Ext SC 137 (WV (.int .u64)):=⟨⟨Tryz.f137,by kernel_rfl,by kernel_rfl,by kernel_rfl,by kernel_rfl,by kernel_rfl⟩⟩
theorem adm:SC.underlying 158=some (.pointer 147):=by kernel_rfl
theorem Hh:SC.underlying 160=some .unsafePointer:=by kernel_rfl
theorem i182:(SC.info? 147).map (λi=>decide (i.size=0))=some false:=by kernel_rfl
noncomputable def aps:T_:={(default:T_)with fn:=184,defers:=[],mode:=.panicking [goexitEntry]}
noncomputable def apn (fn:TO)(tmps:Array SP)(todo:List WU):T_:={fn,tmps,todo,defers:=[],mode:=.returning,kind:=.deferred,roundOf:=none}
noncomputable def pW (Wg o:Nat):SP:=.pointer (some ⟨Wg,o,none⟩)
section
variable (Wg:Nat)(tmps:Array SP)(todo:List WU)
noncomputable def d0:SH:=G (Frame.enter SC 98 #[pW Wg 0] .deferred) [apn 97 tmps todo,aps]
noncomputable def d14:SH:=cF SC false 14 (d0 Wg tmps todo)
noncomputable def d15:SH:=fin (d14 Wg tmps todo) (pW Wg 0)
noncomputable def d16:SH:=fin (d15 Wg tmps todo) (.tuple #[])
noncomputable def d19:SH:=cF SC false 3 (d16 Wg tmps todo)
noncomputable def d20:SH:=fin (d19 Wg tmps todo) (.tuple #[])
noncomputable def d31:SH:=cF SC false 11 (d20 Wg tmps todo)
noncomputable def d32:SH:=fin (d31 Wg tmps todo) (.bool false)
noncomputable def d54:SH:=cF SC false 22 (d32 Wg tmps todo)
noncomputable def d55 (s:Int):SH:=fin (d54 Wg tmps todo) (.int .u64 s)
noncomputable def d158:SH:=cF SC false 103 (d55 Wg tmps todo 1)
noncomputable def d159:SH:=fin (d158 Wg tmps todo) (.int .u64 1)
noncomputable def d179:SH:=cF SC false 20 (d159 Wg tmps todo)
noncomputable def d180:SH:=fin (d179 Wg tmps todo) (.tuple #[])
noncomputable def Bu:SH:=cF SC false 27 (d180 Wg tmps todo)
noncomputable def yQ:SH:=fin (Bu Wg tmps todo) (.tuple #[])
set_option maxRecDepth 100000
variable (w:Tq)
theorem x0:(fG SC false w 14 (d0 Wg tmps todo),oA SC false 14 (d0 Wg tmps todo),bO (d14 Wg tmps todo),bO (d15 Wg tmps todo))=(fC SC false w 14 (d0 Wg tmps todo),true,true,true):=by kernel_rfl
theorem x14:oO (d14 Wg tmps todo)=some (158,160,pW Wg 0):=by kernel_rfl
theorem x15:cr (d15 Wg tmps todo)=some (110,#[pW Wg 0]):=by kernel_rfl
theorem Hv:(fG SC false w 3 (d16 Wg tmps todo),iK SC false 3 (d16 Wg tmps todo),bO (d19 Wg tmps todo),jP SC false 3 0 (d16 Wg tmps todo))=(fC SC false w 3 (d16 Wg tmps todo),true,true,0):=by kernel_rfl
theorem x19:cr (d19 Wg tmps todo)=some (111,#[]):=by kernel_rfl
theorem Hx:(fG SC false w 11 (d20 Wg tmps todo),iK SC false 11 (d20 Wg tmps todo),bO (d31 Wg tmps todo),jP SC false 11 1 (d20 Wg tmps todo))=(fC SC false w 11 (d20 Wg tmps todo),true,true,1):=by kernel_rfl
theorem x31:cr (d31 Wg tmps todo)=some (113,#[]):=by kernel_rfl
theorem Hz:(fG SC false w 22 (d32 Wg tmps todo),iK SC false 22 (d32 Wg tmps todo),bO (d54 Wg tmps todo),jP SC false 22 1 (d32 Wg tmps todo))=(fC SC false w 22 (d32 Wg tmps todo),true,true,1):=by kernel_rfl
theorem x54:cr (d54 Wg tmps todo)=some (134,#[pW Wg 0,.int .u64 18446744069414584320]):=by kernel_rfl
theorem q30:(fG SC false w 94 (d55 Wg tmps todo (3* 4294967296)),iK SC false 94 (d55 Wg tmps todo (3* 4294967296)),(cF SC false 94 (d55 Wg tmps todo (3* 4294967296))).status,jP SC false 94 1 (d55 Wg tmps todo (3* 4294967296)))=(fC SC false w 94 (d55 Wg tmps todo (3* 4294967296)),true,.finished,0):=by kernel_rfl
theorem q31:(fG SC false w 94 (d55 Wg tmps todo (3* 4294967296+1)),iK SC false 94 (d55 Wg tmps todo (3* 4294967296+1)),(cF SC false 94 (d55 Wg tmps todo (3* 4294967296+1))).status,jP SC false 94 1 (d55 Wg tmps todo (3* 4294967296+1)))=(fC SC false w 94 (d55 Wg tmps todo (3* 4294967296+1)),true,.finished,0):=by kernel_rfl
theorem q20:(fG SC false w 94 (d55 Wg tmps todo (2* 4294967296)),iK SC false 94 (d55 Wg tmps todo (2* 4294967296)),(cF SC false 94 (d55 Wg tmps todo (2* 4294967296))).status,jP SC false 94 1 (d55 Wg tmps todo (2* 4294967296)))=(fC SC false w 94 (d55 Wg tmps todo (2* 4294967296)),true,.finished,0):=by kernel_rfl
theorem q21:(fG SC false w 94 (d55 Wg tmps todo (2* 4294967296+1)),iK SC false 94 (d55 Wg tmps todo (2* 4294967296+1)),(cF SC false 94 (d55 Wg tmps todo (2* 4294967296+1))).status,jP SC false 94 1 (d55 Wg tmps todo (2* 4294967296+1)))=(fC SC false w 94 (d55 Wg tmps todo (2* 4294967296+1)),true,.finished,0):=by kernel_rfl
theorem q10:(fG SC false w 94 (d55 Wg tmps todo (1* 4294967296)),iK SC false 94 (d55 Wg tmps todo (1* 4294967296)),(cF SC false 94 (d55 Wg tmps todo (1* 4294967296))).status,jP SC false 94 1 (d55 Wg tmps todo (1* 4294967296)))=(fC SC false w 94 (d55 Wg tmps todo (1* 4294967296)),true,.finished,0):=by kernel_rfl
theorem q11:(fG SC false w 94 (d55 Wg tmps todo (1* 4294967296+1)),iK SC false 94 (d55 Wg tmps todo (1* 4294967296+1)),(cF SC false 94 (d55 Wg tmps todo (1* 4294967296+1))).status,jP SC false 94 1 (d55 Wg tmps todo (1* 4294967296+1)))=(fC SC false w 94 (d55 Wg tmps todo (1* 4294967296+1)),true,.finished,0):=by kernel_rfl
theorem q00:(fG SC false w 94 (d55 Wg tmps todo 0),iK SC false 94 (d55 Wg tmps todo 0),(cF SC false 94 (d55 Wg tmps todo 0)).status,jP SC false 94 1 (d55 Wg tmps todo 0))=(fC SC false w 94 (d55 Wg tmps todo 0),true,.finished,0):=by kernel_rfl
theorem HA:(fG SC false w 103 (d55 Wg tmps todo 1),iK SC false 103 (d55 Wg tmps todo 1),bO (d158 Wg tmps todo),jP SC false 103 1 (d55 Wg tmps todo 1))=(fC SC false w 103 (d55 Wg tmps todo 1),true,true,1):=by kernel_rfl
theorem ar6:cr (d158 Wg tmps todo)=some (135,#[pW Wg 0]):=by kernel_rfl
theorem Hu:(fG SC false w 20 (d159 Wg tmps todo),iK SC false 20 (d159 Wg tmps todo),bO (d179 Wg tmps todo),jP SC false 20 1 (d159 Wg tmps todo))=(fC SC false w 20 (d159 Wg tmps todo),true,true,1):=by kernel_rfl
theorem ar7:cr (d179 Wg tmps todo)=some (136,#[pW Wg 0,.int .u64 0]):=by kernel_rfl
theorem Hw:(fG SC false w 27 (d180 Wg tmps todo),iK SC false 27 (d180 Wg tmps todo),bO (Bu Wg tmps todo),jP SC false 27 1 (d180 Wg tmps todo))=(fC SC false w 27 (d180 Wg tmps todo),true,true,1):=by kernel_rfl
theorem ar8:cr (Bu Wg tmps todo)=some (122,#[pW Wg 1,.bool false,.int .i64 0]):=by kernel_rfl
theorem Hy:(fG SC false w 24 (yQ Wg tmps todo),iK SC false 24 (yQ Wg tmps todo),(cF SC false 24 (yQ Wg tmps todo)).status,jP SC false 24 1 (yQ Wg tmps todo))=(fC SC false w 24 (yQ Wg tmps todo),true,.finished,0):=by kernel_rfl
theorem xm:mayWake SC (Bu Wg tmps todo)=true:=by kernel_rfl
end
section
variable (Wg:Nat)(tmps:Array SP)(todo:List WU)
theorem dU{α β γ δ:Type}{a a':α}{b b':β}{c c':γ}{d d':δ}(h:(a,b,c,d)=(a',b',c',d')):a=a'/\b=b'/\c=c'/\d=d':=by
 simpa[U0]using h
theorem w8{s:Int}(h:∀w,(fG SC false w 94 (d55 Wg tmps todo s),iK SC false 94 (d55 Wg tmps todo s),(cF SC false 94 (d55 Wg tmps todo s)).status,jP SC false 94 1 (d55 Wg tmps todo s))=(fC SC false w 94 (d55 Wg tmps todo s),true,.finished,0)):∃q,Y_ SC q 1 (d55 Wg tmps todo s):=
 GW 94 1 _ (λw=>(dU (h w)).1) (dU (h default)).2.1 (MV (dU (h default)).2.2.1 (dU (h default)).2.2.2)
theorem agJ:DT SC Wg 1 (Bu Wg tmps todo):=by
 refine⟨rfl,bO.out (dU (Hw Wg tmps todo default)).2.2.1,xm Wg tmps todo,yQ Wg tmps todo,λw hw=> ?_,?_⟩
 ·exact aqy (n:=0) (ar8 Wg tmps todo) agT hw.st.2.1 hw.st.2.2.2
 ·exact GW 24 1 _ (λw=>(dU (Hy Wg tmps todo w)).1) (dU (Hy Wg tmps todo default)).2.1 (MV (dU (Hy Wg tmps todo default)).2.2.1 (dU (Hy Wg tmps todo default)).2.2.2)
theorem agK:DU SC Wg 1 (d179 Wg tmps todo):=by
 refine⟨rfl,bO.out (dU (Hu Wg tmps todo default)).2.2.1,d180 Wg tmps todo,λw hw=> ?_,?_⟩
 ·exact aqA (ar7 Wg tmps todo) agW hw.st.1 hw.st.2.2.1
 ·refine wA 27 1 _ (λw=>(dU (Hw Wg tmps todo w)).1) (dU (Hw Wg tmps todo default)).2.1 ?_;rw[(dU (Hw Wg tmps todo default)).2.2.2];exact⟨0,agJ Wg tmps todo⟩
theorem agI:DR SC Wg 1 (d158 Wg tmps todo):=by
 refine⟨rfl,bO.out (dU (HA Wg tmps todo default)).2.2.1,d159 Wg tmps todo,λw hw=> ?_,?_⟩
 ·exact Nc (ar6 Wg tmps todo) IQ hw.st.1
 ·refine wA 20 1 _ (λw=>(dU (Hu Wg tmps todo w)).1) (dU (Hu Wg tmps todo default)).2.1 ?_;rw[(dU (Hu Wg tmps todo default)).2.2.2];exact⟨0,agK Wg tmps todo⟩
theorem agG:AJ SC Wg 1 (d54 Wg tmps todo):=by
 refine⟨rfl,bO.out (dU (Hz Wg tmps todo default)).2.2.1,λv wt uz hv=>⟨d55 Wg tmps todo ((v:Int)* KK+wt),λw hw=> ?_,λh=> ?_,λh=> ?_⟩⟩
 ·have e:TB.wrap ((((v+1:Nat):Int)* KK+wt)+18446744069414584320)=(v:Int)* KK+wt:=by
   have h1:TB.bits=64:=rfl;have h2:TB.signed=false:=rfl;unfold Xc KK;rw[h1,h2];simp;omega
  have:=acC (P:=SC) (main:=false) (w:=w) (x54 Wg tmps todo) Pw hw.st.1 hw.st.2.2.1;rw[e]at this;exact this
 ·obtain⟨rfl,rfl⟩:=h;refine wA 103 1 _ (λw=>(dU (HA Wg tmps todo w)).1) (dU (HA Wg tmps todo default)).2.1 ?_;have e:=(dU (HA Wg tmps todo default)).2.2.2;exact⟨0,by rw[show (((0:Nat):Int)* KK+((1:Nat):Int))=1 from rfl,e];exact agI Wg tmps todo⟩
 ·have hv4:v=0\/v=1\/v=2\/v=3:=by omega
  have g_:wt=0\/wt=1:=by omega
  rcases hv4 with rfl|rfl|rfl|rfl<;>rcases g_ with rfl|rfl
  ·exact w8 Wg tmps todo (q00 Wg tmps todo)
  ·exact absurd ⟨rfl,rfl⟩ h
  ·exact w8 Wg tmps todo (q10 Wg tmps todo)
  ·exact w8 Wg tmps todo (q11 Wg tmps todo)
  ·exact w8 Wg tmps todo (q20 Wg tmps todo)
  ·exact w8 Wg tmps todo (q21 Wg tmps todo)
  ·exact w8 Wg tmps todo (q30 Wg tmps todo)
  ·exact w8 Wg tmps todo (q31 Wg tmps todo)
theorem agH:DZ SC Wg (d15 Wg tmps todo):=by
 refine⟨bO.out (dU (x0 Wg tmps todo default)).2.2.2,d16 Wg tmps todo,λw=>Ha .releaseMerge (λ_ _ h=>by cases h) (x15 Wg tmps todo) agQ,?_⟩;refine wA 3 0 _ (λw=>(dU (Hv Wg tmps todo w)).1) (dU (Hv Wg tmps todo default)).2.1 ?_;rw[(dU (Hv Wg tmps todo default)).2.2.2];refine M9 (g:=d19 Wg tmps todo) (g':=d20 Wg tmps todo) (bO.out (dU (Hv Wg tmps todo default)).2.2.1) (Mg (.inl rfl)) (λw=>G_ (λ_ h=>by cases h) (x19 Wg tmps todo) IP) ?_;refine wA 11 1 (d20 Wg tmps todo) (λw=>(dU (Hx Wg tmps todo w)).1) (dU (Hx Wg tmps todo default)).2.1 ?_;rw[(dU (Hx Wg tmps todo default)).2.2.2];refine M9 (es:=#[]) (g:=d31 Wg tmps todo) (g':=d32 Wg tmps todo) (bO.out (dU (Hx Wg tmps todo default)).2.2.1) (by simp) (λw=>acD (x31 Wg tmps todo) Pu) ?_;refine wA 22 1 (d32 Wg tmps todo) (λw=>(dU (Hz Wg tmps todo w)).1) (dU (Hz Wg tmps todo default)).2.1 ?_;rw[(dU (Hz Wg tmps todo default)).2.2.2];exact⟨0,agG Wg tmps todo⟩
theorem agL{J:View->SH->Prop}(C:yq SC false J){V:View}{c:Nat}(hr:V.role=.work c Wg [])(hd:V.deaf=0):J V (d0 Wg tmps todo):=by
 have C':Closed false SC false J:={C with more:=λh=>by cases h};have hx:=dU (x0 Wg tmps todo default);refine th C' 14 _ (λw=>(dU (x0 Wg tmps todo w)).1) hx.2.1 ?_;refine C.slip V _ (d15 Wg tmps todo) c Wg hr (bO.out hx.2.2.1) (λw st hw hW=> ?_) (C.done V _ c Wg hr hd (agH Wg tmps todo));exact Hb (x14 Wg tmps todo) adm Hh i182 hW.st.1
end
section
variable (Wg:Nat)(cs:List T_)(main:Bool)
noncomputable def a0:SH:=G (Frame.enter SC 96 #[pW Wg 0,.int .i64 1] .normal) cs
noncomputable def D9:SH:=cF SC main 12 (a0 Wg cs)
noncomputable def A8:SH:=fin (D9 Wg cs main) (.tuple #[])
noncomputable def D_:SH:=cF SC main 11 (A8 Wg cs main)
noncomputable def A_:SH:=fin (D_ Wg cs main) (.bool false)
noncomputable def Ea:SH:=cF SC main 22 (A_ Wg cs main)
noncomputable def na (s:Int):SH:=fin (Ea Wg cs main) (.int .u64 s)
noncomputable def m_ (s:Int):SH:=cF SC main 87 (na Wg cs main s)
noncomputable def HW:SH:=cF SC main 52 (na Wg cs main 4294967296)
noncomputable def A6:SH:=fin (HW Wg cs main) (pW Wg 1)
noncomputable def A7:SH:=fin (A6 Wg cs main) (.tuple #[])
noncomputable def A9:SH:=cF SC main 39 (A7 Wg cs main)
set_option maxRecDepth 100000
variable (w:Tq)
theorem y0:(fG SC main w 12 (a0 Wg cs),oA SC main 12 (a0 Wg cs),bO (D9 Wg cs main),cr (D9 Wg cs main))=(fC SC main w 12 (a0 Wg cs),true,true,some (111,#[])):=by kernel_rfl
theorem y13:(fG SC main w 11 (A8 Wg cs main),oA SC main 11 (A8 Wg cs main),bO (D_ Wg cs main),cr (D_ Wg cs main))=(fC SC main w 11 (A8 Wg cs main),true,true,some (113,#[])):=by kernel_rfl
theorem y25:(fG SC main w 22 (A_ Wg cs main),oA SC main 22 (A_ Wg cs main),bO (Ea Wg cs main),cr (Ea Wg cs main))=(fC SC main w 22 (A_ Wg cs main),true,true,some (134,#[pW Wg 0,.int .u64 4294967296])):=by kernel_rfl
noncomputable def x9 (g:SH):ZI×U7×Nat×Xe×List UX×Bool:=(.go (gq SC main g) w #[⟨.mark .enable,false,true⟩],(gq SC main g).frame.mode,(gq SC main g).frame.fn,(gq SC main g).frame.kind,(gq SC main g).frame.defers,bO (gq SC main g))
theorem NL:(fG SC main w 87 (na Wg cs main (2* 4294967296)),oA SC main 87 (na Wg cs main (2* 4294967296)),bO (m_ Wg cs main (2* 4294967296)),x9 main w (m_ Wg cs main (2* 4294967296)))=(fC SC main w 87 (na Wg cs main (2* 4294967296)),true,true,stepG SC main (m_ Wg cs main (2* 4294967296)) w,.returning,96,.normal,[],true):=by kernel_rfl
theorem NM:(fG SC main w 87 (na Wg cs main (3* 4294967296)),oA SC main 87 (na Wg cs main (3* 4294967296)),bO (m_ Wg cs main (3* 4294967296)),x9 main w (m_ Wg cs main (3* 4294967296)))=(fC SC main w 87 (na Wg cs main (3* 4294967296)),true,true,stepG SC main (m_ Wg cs main (3* 4294967296)) w,.returning,96,.normal,[],true):=by kernel_rfl
theorem NN:(fG SC main w 87 (na Wg cs main (4* 4294967296)),oA SC main 87 (na Wg cs main (4* 4294967296)),bO (m_ Wg cs main (4* 4294967296)),x9 main w (m_ Wg cs main (4* 4294967296)))=(fC SC main w 87 (na Wg cs main (4* 4294967296)),true,true,stepG SC main (m_ Wg cs main (4* 4294967296)) w,.returning,96,.normal,[],true):=by kernel_rfl
theorem adz:(fG SC main w 52 (na Wg cs main 4294967296),oA SC main 52 (na Wg cs main 4294967296),bO (HW Wg cs main),oO (HW Wg cs main))=(fC SC main w 52 (na Wg cs main 4294967296),true,true,some (165,160,pW Wg 1)):=by kernel_rfl
theorem ar9:cr (A6 Wg cs main)=some (118,#[pW Wg 1]):=by kernel_rfl
theorem NK:(fG SC main w 39 (A7 Wg cs main),oA SC main 39 (A7 Wg cs main),bO (A9 Wg cs main),x9 main w (A9 Wg cs main))=(fC SC main w 39 (A7 Wg cs main),true,true,stepG SC main (A9 Wg cs main) w,.returning,96,.normal,[],true):=by kernel_rfl
theorem yr1:bO (A6 Wg cs main)=true:=by kernel_rfl
theorem Hi:∃t,SC.underlying 165=some (.pointer t)/\(SC.info? t).map (λi=>decide (i.size=0))=some false:=⟨145,by kernel_rfl,by kernel_rfl⟩
theorem ahL:∃fn,SC.funcs[96]?=some fn/\fn.results=#[]:=⟨Tryz.f96,by kernel_rfl,by kernel_rfl⟩
end
section
variable {P:SJ}{V:View}
theorem aqI{w:Tq}{b o:Nat}{v:SP}{c:Array SP}{el:TypeId}(hw:Sat V w)(ho:V.own b=some (.cells c el (0,0)))(cD:V.ab b o=none)(Kf:V.role.chan≠some b):
  dc V w (V.upd b (.cells (c.setIfInBounds o v) el (0,0))) (w.setCell ⟨b,o,none⟩ v) #[⟨.cell ⟨b,o,none⟩,false,true⟩,⟨.cell ⟨b,o,none⟩,true,true⟩]:=by
 refine⟨hw.adq ho cD,rfl,rfl,rfl,by rw[Dl];exact SR _,λb' dB e=>vT _ _ _ (λx=> ?_),λb' dB e=> ?_,λ_ _ _ e=>e,λ_ _ _ e=> .inl e,λev cu=> ?_,by simp[deafBehind];rfl,rfl,λc' x bi e=>by rw[<- e];simp only[View.upd,ite_eq_right_iff];intro x';subst x';exact absurd bi Kf,λev cu=> ?_⟩
 ·have x':b=b':=x;subst x';rw[ho]at e;cases e
 ·have:b'≠b:=by intro x;subst x;rw[ho]at e;cases e
  simp only[View.upd,this,if_false];exact e
 ·simp only[TJ,SL,S4,or_false]at cu;rcases cu with rfl|rfl
  ·exact⟨.inr (.inl (by show V.own b≠none;rw[ho];simp)),.inl rfl⟩
  ·exact⟨.inr ⟨by show V.own b≠none;rw[ho];simp,cD⟩,.inl rfl⟩
 ·simp only[TJ,SL,S4,or_false]at cu;rcases cu with rfl|rfl<;>(show b<_;rw[Dl];exact hw.lt ho)
theorem Closed.said{lv main:Bool}{J:View->SH->Prop}(C:Closed lv P main J){g g':SH}{a:U3}(hr:g.status=.running)(ha:V.own a.block≠none/\V.ab a.block a.off=none)(h:∀w,stepG P main g w=.go g' w #[⟨.mark (.read a),false,true⟩]) (hJ:J V g'):J V g:=by
 refine C.step _ _ hr λw hw=> ?_;have hs:=ap6 (P:=P) (V:=V) (k:=(.pure ():Sem Unit)) (K:=λ_ V'=>V'=V) (Kp:=λ_ _=>False) (m:=.read a) (.inl rfl) ha (cG rfl);obtain⟨es,w',V',k1,k2,k3⟩:=hs.runs hw;rcases k3 with⟨x,k3,rfl⟩|⟨_,_,hx⟩
 ·have e1:Yg () w=Yg x w':=k3;have e2:es=#[⟨.mark (.read a),false,true⟩]:=k2.symm;cases e1;subst e2;refine⟨g',w,_,_,h w,?_,hJ⟩;rwa [tr (by simp)]at k1
 ·exact hx.elim
end
section
variable (Wg:Nat)(cs:List T_)(main:Bool)
set_option maxRecDepth 100000
theorem yG2:gq SC main (m_ Wg cs main (2* 4294967296))=G (gq SC main (m_ Wg cs main (2* 4294967296))).frame cs:=by kernel_rfl
theorem yG3:gq SC main (m_ Wg cs main (3* 4294967296))=G (gq SC main (m_ Wg cs main (3* 4294967296))).frame cs:=by kernel_rfl
theorem yG4:gq SC main (m_ Wg cs main (4* 4294967296))=G (gq SC main (m_ Wg cs main (4* 4294967296))).frame cs:=by kernel_rfl
theorem yG1:gq SC main (A9 Wg cs main)=G (gq SC main (A9 Wg cs main)).frame cs:=by kernel_rfl
end
theorem kN{α β γ δ:Type}{a a':α}{b b':β}{c c':γ}{d d':δ}(h:(a,b,c,d)=(a',b',c',d')):a=a'/\b=b'/\c=c'/\d=d':=by
 simpa[U0]using h
section
variable {lv main:Bool}{J:View->SH->Prop}{V:View}{cs:List T_}
theorem Ed(C:Closed lv SC main J){g:SH}{U:View}(bK:bO g=true)(h:∀w,(Go.Gg.x9 main w g)=(stepG SC main g w,.returning,96,.normal,[],true))(hG:gq SC main g=G (gq SC main g).frame cs)
  (hU:U={V with deaf:=deafBehind V.deaf #[⟨.mark .enable,false,true⟩]}) (hJ:∀fr,Leaves SC fr 96 .normal (.ret (.tuple #[])) U->J U (G fr cs)):J V g:=by
 refine C.mute (.inr rfl) (bO.out bK) (λw=> ?_) (g':=gq SC main g) ?_
 ·have:=h w;simp only[Go.Gg.x9,U0]at this;exact this.1.symm
 ·have:=h default;simp only[Go.Gg.x9,U0]at this;obtain⟨_,h1,h2,h3,h4,_⟩:=this;rw[hG,<- hU];refine hJ _ ⟨h2,h4,h3,?_⟩;obtain⟨fn,hf,hr⟩:=ahL;exact⟨fn,hf,h1,results_none hr⟩
theorem aeE{n Wg:Nat}{sm:TypeId}(hn:n<4)(hW:V.own Wg=some (.cells #[.int .u64 ((n:Int)* KK),.int .u32 0] sm (0,0))) (hi:∀o,V.ab Wg o=none) (hc:V.role.chan≠some Wg) (hd:V.deaf=0):
  Body lv SC 96 #[pW Wg 0,.int .i64 1] .normal V (λo V'=>o=.ret (.tuple #[])/\V'=V.upd Wg (.cells #[.int .u64 (((n+1:Nat):Int)* KK),.int .u32 0] sm (0,0))):=by
 intro main J C cs hJ;have hA:=kN (y0 Wg cs main default);show J V (a0 Wg cs);refine th C 12 _ (λw=>(kN (y0 Wg cs main w)).1) hA.2.1 ?_;refine C.mute (g:=D9 Wg cs main) (g':=A8 Wg cs main) (.inl rfl) (bO.out hA.2.2.1) (λw=>G_ (λ_ h=>by cases h) hA.2.2.2 IP) ?_;have hB:=kN (y13 Wg cs main default);refine th C 11 _ (λw=>(kN (y13 Wg cs main w)).1) hB.2.1 ?_;refine C.idle (g:=D_ Wg cs main) (g':=A_ Wg cs main) (bO.out hB.2.2.1) (λw=>acD hB.2.2.2 Pu) ?_;have hC:=kN (y25 Wg cs main default);refine th C 22 _ (λw=>(kN (y25 Wg cs main w)).1) hC.2.1 ?_;let V1:View:={V with deaf:=deafBehind V.deaf #[⟨.mark .disable,false,true⟩]};let V2:View:=V1.upd Wg (.cells #[.int .u64 (((n+1:Nat):Int)* KK),.int .u32 0] sm (0,0));have zd:{V2 with deaf:=deafBehind V2.deaf #[⟨.mark .enable,false,true⟩]}=V.upd Wg (.cells #[.int .u64 (((n+1:Nat):Int)* KK),.int .u32 0] sm (0,0)):=by
  obtain⟨i,o,d,r⟩:=V;have:d=0:=hd;subst this;rfl
 show J V1 (Ea Wg cs main);refine C.step _ _ (bO.out hC.2.2.1) λw hw=> ?_;have hh:=hw.own Wg _ hW;have dl:w.cell? ⟨Wg,0,none⟩=some (.int .u64 ((n:Int)* KK)):=by simp[Ux,hh]
 have iw:w.frozen? ⟨Wg,0,none⟩=false:=by simp[ZW,hh]
 have hs:=acC (P:=SC) (main:=main) (w:=w) hC.2.2.2 Pw dl iw;have e:TB.wrap (((n:Int)* KK)+4294967296)=((n+1:Nat):Int)* KK:=by
  have h1:TB.bits=64:=rfl;have h2:TB.signed=false:=rfl;unfold Xc KK;rw[h1,h2];simp;omega
 rw[e]at hs;refine⟨na Wg cs main (((n+1:Nat):Int)* KK),_,_,V2,hs,?_,?_⟩
 ·exact aqI (V:=V1) hw hW (hi 0) hc
 have R0:n=0\/n=1\/n=2\/n=3:=by omega
 rcases R0 with rfl|rfl|rfl|rfl
 ·have hD:=kN (adz Wg cs main default);refine th C 52 _ (λw=>(kN (adz Wg cs main w)).1) hD.2.1 ?_;obtain⟨t,ht1,FT⟩:=Hi;have QR:V2.own Wg=some (.cells #[.int .u64 (((0+1:Nat):Int)* KK),.int .u32 0] sm (0,0)):=by simp[V2,View.upd]
  refine C.step _ _ (bO.out hD.2.2.1) λw hw=>⟨A6 Wg cs main,w,#[],V2,?_,.idle hw,?_⟩
  ·have hh:=hw.own Wg _ QR;exact Hb hD.2.2.2 ht1 Hh FT (v:=.int .u32 0) (by simp[Ux,hh])
  refine C.said (g:=A6 Wg cs main) (g':=A7 Wg cs main) (a:=⟨Wg,1,none⟩) (bO.out (yr1 Wg cs main)) ⟨by show V2.own Wg≠none;rw[QR];simp,hi 1⟩ (λw=>Ha .read (λ_ _ h=>by cases h) (ar9 Wg cs main) agS) ?_;have hE:=kN (NK Wg cs main default);refine th C 39 _ (λw=>(kN (NK Wg cs main w)).1) hE.2.1 ?_;exact Ed C hE.2.2.1 (λw=>(kN (NK Wg cs main w)).2.2.2) (yG1 Wg cs main) zd.symm λfr hl=>hJ _ _ fr ⟨rfl,rfl⟩ hl
 ·have hE:=kN (NL Wg cs main default);refine th C 87 _ (λw=>(kN (NL Wg cs main w)).1) hE.2.1 ?_;exact Ed C hE.2.2.1 (λw=>(kN (NL Wg cs main w)).2.2.2) (yG2 Wg cs main) zd.symm λfr hl=>hJ _ _ fr ⟨rfl,rfl⟩ hl
 ·have hE:=kN (NM Wg cs main default);refine th C 87 _ (λw=>(kN (NM Wg cs main w)).1) hE.2.1 ?_;exact Ed C hE.2.2.1 (λw=>(kN (NM Wg cs main w)).2.2.2) (yG3 Wg cs main) zd.symm λfr hl=>hJ _ _ fr ⟨rfl,rfl⟩ hl
 ·have hE:=kN (NN Wg cs main default);refine th C 87 _ (λw=>(kN (NN Wg cs main w)).1) hE.2.1 ?_;exact Ed C hE.2.2.1 (λw=>(kN (NN Wg cs main w)).2.2.2) (yG4 Wg cs main) zd.symm λfr hl=>hJ _ _ fr ⟨rfl,rfl⟩ hl
end
section
variable {P:SJ}{main:Bool}{g:SH}{w:Tq}
def uN (g:SH):Option (TypeId×SP):=match ready g with
 |some {op:=.load t x, .. }=>some (t,g.frame.eval x)
 |_=>none
theorem aqw{t:TypeId}{d:TypeDesc}{ad:U3}{v:SP}(h:uN g=some (t,.pointer (some ad)))(ht:P.underlying t=some d)(hd:TypeDesc.agg d=false)(hq:(P.funcs[g.frame.fn]?).any (·.norace)=false)(hc:w.cell? ad=some v):
  stepG P main g w=.go (fin g v) w #[⟨.cell ad,false,false⟩]:=by
 obtain⟨o,x,h1,h2,h3⟩:∃o x,ready g=some o/\o.op=.load t x/\g.frame.eval x=.pointer (some ad):=by
  unfold uN at h;split at h
  ·rename_i s x _ _ _ _ ho;simp only[Tn,U0]at h;obtain⟨rfl,h⟩:=h;exact⟨_,x,ho,rfl,h⟩
  ·cases h
 obtain⟨b,a,ops,i,rest,kk,cs,e,q1,q2,q3,q4,q5,q6,_⟩:=ready.out h1;rw[<- q4]at h3;rw[<- q5];refine VK (congrArg (λx=>stepG P main x w) e) ?_;have e1:execOp a.eval o=(do let v<- Xz t (.pointer (some ad));pure (.value v)):=by
  unfold execOp;simp only[h2,h3]
 have e2:(isAgg t:Sem Bool).run P w=.ok false w/\∀es,(isAgg t:Sem Bool).events P w es=es:=by
  unfold isAgg Go.underlying;cases d<;>first
   |(exact(Bool.noConfusion hd))
   |(constructor<;>simp[go_sem,ht])
 have hr:(execOp a.eval o).run P w=.ok (.value v) w:=by
  rw[e1];simp[Xz,U9,loadVar,e2.1,hc]
 have cu:(execOp a.eval o).events P w #[]=#[⟨.cell ad,false,false⟩]:=by
  rw[e1];simp[Xz,U9,loadVar,e2.1,e2.2,hc]
 rw[atQ q1 q2 q3 hr];unfold listed;rw[cu,seen_eq (by rw[q6];exact hq) (by intro e he f;simp only[TJ,SL,S4,or_false]at he;rw[he];simp)]
def w6 (g:SH):Option SP:=match ready g with
 |some {op:=.call {callee:=.builtin .close,args, .. }, .. }=>match args.toList with
  |[x]=>some (g.frame.eval x)
  |_=>none
 |_=>none
theorem aqv{c cap s r:Nat}{En:Array SP}{tm:Bool}(h:w6 g=some (.chan (some c)))(hq:(P.funcs[g.frame.fn]?).any (·.norace)=false)(hc:w.heap[c]?=some (.chan cap En false s r tm)):
  stepG P main g w=.go (fin g (.tuple #[])) {w with heap:=w.heap.setIfInBounds c (.chan cap En true s r tm)} #[⟨.obj c,false,true⟩,⟨.obj c,true,true⟩]:=by
 obtain⟨o,x,l6,h1,h2,h3⟩:∃o x l6,ready g=some o/\o.op=.call {callee:=.builtin .close,args:=#[x],argTypes:=l6}/\g.frame.eval x=.chan (some c):=by
  unfold w6 at h;split at h
  ·rename_i dst xs l6 ty pos af gd ho;split at h
   ·rename_i x hx;have:xs=#[x]:=(by apply VD;simpa using hx);subst this;exact⟨_,x,_,ho,rfl,by simpa using h⟩
   ·cases h
  ·cases h
 obtain⟨b,a,ops,i,rest,kk,cs,e,q1,q2,q3,q4,q5,q6,_⟩:=ready.out h1;rw[<- q4]at h3;rw[<- q5];refine VK (congrArg (λx=>stepG P main x w) e) ?_;exact stepG_close q1 q2 q3 h2 h3 hc (by rw[q6];exact hq)
end
section
variable (Wg fc c:Nat)
noncomputable def e0:SH:=born SC ⟨.fn (.func 100) #[pW Wg 0,pW fc 0],#[]⟩
noncomputable def e7:SH:=cF SC false 7 (e0 Wg fc)
noncomputable def e8:SH:=fin (e7 Wg fc) (.tuple #[])
noncomputable def e27:SH:=cF SC false 19 (e8 Wg fc)
noncomputable def f76 (h:SH)(v:Int):SH:=cF SC false 48 (fin h (.int .u64 v))
noncomputable def Mb (b:SH):SH:=cF SC false 25 (fin b (.bool false))
noncomputable def f96 (b:SH):SH:=cF SC false 19 (fin b (.bool true))
noncomputable def f97 (b:SH):SH:=fin (f96 b) (pW Wg 1)
noncomputable def f121 (b:SH):SH:=cF SC false 23 (fin (f97 Wg b) (.tuple #[]))
noncomputable def f138 (b:SH):SH:=cF SC false 16 (fin (f121 Wg b) (.tuple #[]))
noncomputable def f150 (b:SH):SH:=cF SC false 11 (fin (f138 Wg b) (.int .u64 0))
noncomputable def f154 (b:SH):SH:=cF SC false 3 (fin (f150 Wg b) (.tuple #[]))
noncomputable def f155 (b:SH):SH:=fin (f154 Wg b) (pW Wg 0)
noncomputable def f168 (b:SH):SH:=cF SC false 12 (fin (f155 Wg b) (.tuple #[]))
noncomputable def f169 (b:SH):SH:=fin (f168 Wg b) (.chan (some c))
noncomputable def f170 (b:SH):SH:=fin (f169 Wg c b) (.tuple #[])
noncomputable def yp (h:SH):SH:=cF SC false 31 (fin h (.int .u64 0))
noncomputable def NO (h:SH):SH:=cF SC false 3 (fin (yp h) (.tuple #[]))
noncomputable def u7 (h:SH):SH:=fin (NO h) (pW Wg 0)
noncomputable def DK (h:SH):SH:=cF SC false 22 (fin (u7 Wg h) (.tuple #[]))
noncomputable def u9 (h:SH):SH:=fin (DK Wg h) (.chan (some c))
noncomputable def HE (h:SH):SH:=fin (u9 Wg c h) (.tuple #[])
noncomputable def hd:List Int->SH
 |[]=>e27 Wg fc
 |v::l=>Mb (f76 (hd l) v)
noncomputable def bd (l:List Int)(v:Int):SH:=f76 (hd Wg fc l) v
noncomputable def fx (w:Tq)(n d:Nat)(g:SH):List ZI×Bool×Bool×Nat:=(fG SC false w n g,iK SC false n g,bO (cF SC false n g),jP SC false n d g)
noncomputable def fw (w:Tq)(n d:Nat)(g:SH):List ZI×Bool×Bool×Nat:=(fC SC false w n g,true,true,d)
noncomputable def yV (w:Tq)(n:Nat)(g:SH):List ZI×Bool×GoStatus×Nat:=(fG SC false w n g,iK SC false n g,(cF SC false n g).status,jP SC false n 0 g)
noncomputable def yU (w:Tq)(n:Nat)(g:SH):List ZI×Bool×GoStatus×Nat:=(fC SC false w n g,true,.finished,0)
noncomputable def qk (g:SH):Bool:= !(SC.funcs[g.frame.fn]?).any (·.norace)
noncomputable def zT (w:Tq)(h:SH):=(cr h,bO h,fx w 31 1 (fin h (.int .u64 0)),cr (yp h),fx w 3 0 (fin (yp h) (.tuple #[])),oO (NO h),cr (u7 Wg h),bO (u7 Wg h),fx w 22 0 (fin (u7 Wg h) (.tuple #[])),uN (DK Wg h),qk (DK Wg h),w6 (u9 Wg c h),qk (u9 Wg c h),bO (u9 Wg c h),mayWake SC (u9 Wg c h),yV w 4 (HE Wg c h))
noncomputable def zR (w:Tq)(h:SH):=(some ((135:TO),#[pW Wg 0]),true,fw w 31 1 (fin h (.int .u64 0)),some ((112:TO),(#[]:Array SP)),fw w 3 0 (fin (yp h) (.tuple #[])),some ((158:TypeId),(160:TypeId),pW Wg 0),some ((123:TO),#[pW Wg 0]),true,fw w 22 0 (fin (u7 Wg h) (.tuple #[])),some ((139:TypeId),pW fc 0),true,some (XN (some c)),true,true,true,yU w 4 (HE Wg c h))
noncomputable def fT (w:Tq)(b:SH):=(cr b,bO b,fx w 25 1 (fin b (.bool false)),fx w 19 1 (fin b (.bool true)),oO (f96 b),cr (f97 Wg b),bO (f97 Wg b),fx w 23 1 (fin (f97 Wg b) (.tuple #[])),cr (f121 Wg b),(f121 Wg b).offers,fx w 16 1 (fin (f121 Wg b) (.tuple #[])),cr (f138 Wg b),fx w 11 1 (fin (f138 Wg b) (.int .u64 0)),cr (f150 Wg b),fx w 3 0 (fin (f150 Wg b) (.tuple #[])),oO (f154 Wg b),cr (f155 Wg b),bO (f155 Wg b),fx w 12 0 (fin (f155 Wg b) (.tuple #[])),uN (f168 Wg b),qk (f168 Wg b),w6 (f169 Wg c b),qk (f169 Wg c b),bO (f169 Wg c b),mayWake SC (f169 Wg c b),yV w 4 (f170 Wg c b))
noncomputable def fR (w:Tq)(b:SH)(v:Int):=(some ((137:TO),#[pW Wg 0,.int .u64 v,.int .u64 (v+1)]),true,fw w 25 1 (fin b (.bool false)),fw w 19 1 (fin b (.bool true)),some ((165:TypeId),(160:TypeId),pW Wg 1),some ((126:TO),#[pW Wg 1]),true,fw w 23 1 (fin (f97 Wg b) (.tuple #[])),some ((127:TO),#[pW Wg 1,.bool false]),(none:Option (Array CommCase×CommShape)),fw w 16 1 (fin (f121 Wg b) (.tuple #[])),some ((135:TO),#[pW Wg 0]),fw w 11 1 (fin (f138 Wg b) (.int .u64 0)),some ((112:TO),(#[]:Array SP)),fw w 3 0 (fin (f150 Wg b) (.tuple #[])),some ((158:TypeId),(160:TypeId),pW Wg 0),some ((123:TO),#[pW Wg 0]),true,fw w 12 0 (fin (f155 Wg b) (.tuple #[])),some ((139:TypeId),pW fc 0),true,some (XN (some c)),true,true,true,yU w 4 (f170 Wg c b))
set_option maxRecDepth 100000
theorem c0(w:Tq):(fx w 7 0 (e0 Wg fc),cr (e7 Wg fc),fx w 19 1 (e8 Wg fc))=(fw w 7 0 (e0 Wg fc),some ((111:TO),(#[]:Array SP)),fw w 19 1 (e8 Wg fc)):=by kernel_rfl
noncomputable def pT (w:Tq)(l:List Int)(v:Int):=(fx w 48 1 (fin (hd Wg fc l) (.int .u64 v)),fT Wg c w (bd Wg fc l v),zT Wg c w (hd Wg fc (v::l)))
noncomputable def pR (w:Tq)(l:List Int)(v:Int):=(fw w 48 1 (fin (hd Wg fc l) (.int .u64 v)),fR Wg fc c w (bd Wg fc l v) v,zR Wg fc c w (hd Wg fc (v::l)))
theorem zz(w:Tq):zT Wg c w (hd Wg fc [])=zR Wg fc c w (hd Wg fc []):=by kernel_rfl
theorem MQ(w:Tq):pT Wg fc c w [] (4* 4294967296)=pR Wg fc c w [] (4* 4294967296):=by kernel_rfl
theorem MP(w:Tq):pT Wg fc c w [4* 4294967296] (3* 4294967296)=pR Wg fc c w [4* 4294967296] (3* 4294967296):=by kernel_rfl
theorem MM(w:Tq):pT Wg fc c w [3* 4294967296,4* 4294967296] (2* 4294967296)=pR Wg fc c w [3* 4294967296,4* 4294967296] (2* 4294967296):=by kernel_rfl
theorem ME(w:Tq):pT Wg fc c w [2* 4294967296,3* 4294967296,4* 4294967296] (1* 4294967296)=pR Wg fc c w [2* 4294967296,3* 4294967296,4* 4294967296] (1* 4294967296):=by kernel_rfl
theorem MH(w:Tq):pT Wg fc c w [3* 4294967296,4* 4294967296] (1* 4294967296)=pR Wg fc c w [3* 4294967296,4* 4294967296] (1* 4294967296):=by kernel_rfl
theorem MN(w:Tq):pT Wg fc c w [4* 4294967296] (2* 4294967296)=pR Wg fc c w [4* 4294967296] (2* 4294967296):=by kernel_rfl
theorem MF(w:Tq):pT Wg fc c w [2* 4294967296,4* 4294967296] (1* 4294967296)=pR Wg fc c w [2* 4294967296,4* 4294967296] (1* 4294967296):=by kernel_rfl
theorem MI(w:Tq):pT Wg fc c w [4* 4294967296] (1* 4294967296)=pR Wg fc c w [4* 4294967296] (1* 4294967296):=by kernel_rfl
theorem MO(w:Tq):pT Wg fc c w [] (3* 4294967296)=pR Wg fc c w [] (3* 4294967296):=by kernel_rfl
theorem ML(w:Tq):pT Wg fc c w [3* 4294967296] (2* 4294967296)=pR Wg fc c w [3* 4294967296] (2* 4294967296):=by kernel_rfl
theorem MD(w:Tq):pT Wg fc c w [2* 4294967296,3* 4294967296] (1* 4294967296)=pR Wg fc c w [2* 4294967296,3* 4294967296] (1* 4294967296):=by kernel_rfl
theorem MG(w:Tq):pT Wg fc c w [3* 4294967296] (1* 4294967296)=pR Wg fc c w [3* 4294967296] (1* 4294967296):=by kernel_rfl
theorem MK(w:Tq):pT Wg fc c w [] (2* 4294967296)=pR Wg fc c w [] (2* 4294967296):=by kernel_rfl
theorem MC(w:Tq):pT Wg fc c w [2* 4294967296] (1* 4294967296)=pR Wg fc c w [2* 4294967296] (1* 4294967296):=by kernel_rfl
theorem MB(w:Tq):pT Wg fc c w [] (1* 4294967296)=pR Wg fc c w [] (1* 4294967296):=by kernel_rfl
end
section
variable {P:SJ}{Wg:Nat}{Stop:Nat->SH->Prop}
theorem PD{n d d':Nat}{g:SH}(h:∀w,fx w n d g=fw w n d' g):(∀w,fG SC false w n g=fC SC false w n g)/\iK SC false n g=true/\bO (cF SC false n g)=true/\jP SC false n d g=d':=
 ⟨λw=>(dU (h w)).1,(dU (h default)).2.1,(dU (h default)).2.2.1,(dU (h default)).2.2.2⟩
theorem xa{n d d':Nat}{g:SH}(h:∀w,fx w n d g=fw w n d' g)(hs:∃m,cQ SC Stop m d' (cF SC false n g)):∃m,cQ SC Stop m d g:=by
 obtain⟨h1,h2,_,h4⟩:=PD h;exact wA n d g h1 h2 (by rw[h4];exact hs)
theorem IY{n d d':Nat}{g:SH}(h:∀w,fx w n d g=fw w n d' g)(hs:∃m,gU SC Wg Stop m d' (cF SC false n g)):∃m,gU SC Wg Stop m d g:=by
 obtain⟨h1,h2,_,h4⟩:=PD h;exact acw n d g h1 h2 (by rw[h4];exact hs)
theorem ahi{n:Nat}{g:SH}(h:∀w,yV w n g=yU w n g):∃q,Y_ SC q 0 g:=
 GW n 0 g (λw=>(dU (h w)).1) (dU (h default)).2.1 (MV (dU (h default)).2.2.1 (dU (h default)).2.2.2)
theorem aqh{d:Nat}{g g':SH}{es:Array Uo}(hr:g.status=.running)(hm:∀e∈es,WI e=true)(h:∀w,stepG P false g w=.go g' w es)(hs:∃m,gU P Wg Stop m (deafBehind d es) g'):∃m,gU P Wg Stop m d g:=by
 obtain⟨m,fN⟩:=hs;exact⟨m+1,.inr ⟨hr,g',es,hm,λw _ _ _=>h w,fN⟩⟩
end
set_option maxRecDepth 100000
theorem t173:(SC.underlying 139).map TypeDesc.agg=some false:=by kernel_rfl
theorem MW{g:SH}{o:Tx}(h:ready g=some o):bO g=true:=by
 obtain⟨_,_,_,_,_,_,_,_,_,_,_,_,_,_,hr⟩:=ready.out h;unfold bO;rw[hr]
theorem yL{g:SH}{f:TO}{vs:Array SP}(h:cr g=some (f,vs)):bO g=true:=by
 obtain⟨_,_,_,h1,_,_⟩:=cr.out h;exact MW h1
theorem O2{g:SH}{s d:TypeId}{v:SP}(h:oO g=some (s,d,v)):bO g=true:=by
 unfold oO at h;split at h
 ·rename_i ho;exact MW ho
 ·cases h
theorem amK{g:SH}{t:TypeId}{v:SP}(h:uN g=some (t,v)):bO g=true:=by
 unfold uN at h;split at h
 ·rename_i ho;exact MW ho
 ·cases h
section
variable {Wg fc c:Nat}{Im:cx}
theorem N6{n:Nat}{g:SH}(hi:Im fc 0=some (.chan (some c)))(h1:cr g=some (123,#[pW Wg 0])) (h3:∀w,fx w n 0 (fin g (.tuple #[]))=fw w n 0 (fin g (.tuple #[])))
  (h4:uN (cF SC false n (fin g (.tuple #[])))=some (139,pW fc 0)) (h5:qk (cF SC false n (fin g (.tuple #[])))=true)
  (h6:w6 (fin (cF SC false n (fin g (.tuple #[]))) (.chan (some c)))=some (.chan (some c))) (h7:qk (fin (cF SC false n (fin g (.tuple #[]))) (.chan (some c)))=true) (h8:bO (fin (cF SC false n (fin g (.tuple #[]))) (.chan (some c)))=true)
  (h9:mayWake SC (fin (cF SC false n (fin g (.tuple #[]))) (.chan (some c)))=true) (h10:∀w,yV w 4 (fin (fin (cF SC false n (fin g (.tuple #[]))) (.chan (some c))) (.tuple #[]))=yU w 4 (fin (fin (cF SC false n (fin g (.tuple #[]))) (.chan (some c))) (.tuple #[]))):tK SC Im c Wg 0 g:=by
 refine⟨rfl,bO.out (yL h1),_,λw=>Ha .acquire (λ_ _ h=>by cases h) h1 agU,?_⟩;refine xa h3 ⟨0,rfl,bO.out (amK h4),fc,0,_,_,hi,λw hc=> ?_,0,rfl,bO.out h8,h9,_,λw s hw=> ?_,ahi h10⟩
 ·obtain⟨d,dg,lg⟩:=Ts.1 t173;exact aqw h4 dg lg (by simpa[qk]using h5) hc
 ·exact aqv h6 (by simpa[qk]using h7) hw
theorem aax{n1 n2:Nat}{g:SH}(h1:∀w,fx w n1 1 g=fw w n1 1 g)(h2:cr (cF SC false n1 g)=some (112,#[])) (h3:∀w,fx w n2 0 (fin (cF SC false n1 g) (.tuple #[]))=fw w n2 0 (fin (cF SC false n1 g) (.tuple #[])))
  (h4:oO (cF SC false n2 (fin (cF SC false n1 g) (.tuple #[])))=some (158,160,pW Wg 0)) (h5:tK SC Im c Wg 0 (fin (cF SC false n2 (fin (cF SC false n1 g) (.tuple #[]))) (pW Wg 0))):∃n,gU SC Wg (tK SC Im c Wg) n 1 g:=by
 refine IY h1 ?_;refine aqh (bO.out (yL h2)) (Mg (.inr rfl)) (λw=>G_ (λ_ h=>by cases h) h2 agR) ?_;refine IY (d:=deafBehind 1 #[⟨.mark .enable,false,true⟩]) h3 ?_;exact acx (bO.out (O2 h4)) (λw x y hW=>Hb h4 adm Hh i182 hW.st.1) ⟨0,h5⟩
theorem asb{h:SH}(hi:Im fc 0=some (.chan (some c)))(H:∀w,zT Wg c w h=zR Wg fc c w h):cr h=some (135,#[pW Wg 0])/\∃n,gU SC Wg (tK SC Im c Wg) n 1 (fin h (.int .u64 0)):=by
 have key:∀w,cr h=some ((135:TO),#[pW Wg 0])/\bO h=true/\fx w 31 1 (fin h (.int .u64 0))=fw w 31 1 (fin h (.int .u64 0))/\cr (yp h)=some ((112:TO),(#[]:Array SP))/\fx w 3 0 (fin (yp h) (.tuple #[]))=fw w 3 0 (fin (yp h) (.tuple #[]))/\oO (NO h)=some ((158:TypeId),(160:TypeId),pW Wg 0)/\cr (u7 Wg h)=some ((123:TO),#[pW Wg 0])/\bO (u7 Wg h)=true/\fx w 22 0 (fin (u7 Wg h) (.tuple #[]))=fw w 22 0 (fin (u7 Wg h) (.tuple #[]))/\uN (DK Wg h)=some ((139:TypeId),pW fc 0)/\qk (DK Wg h)=true/\w6 (u9 Wg c h)=some (XN (some c))/\qk (u9 Wg c h)=true/\bO (u9 Wg c h)=true/\mayWake SC (u9 Wg c h)=true/\yV w 4 (HE Wg c h)=yU w 4 (HE Wg c h):=λw=>by
  have:=H w;unfold zT zR at this;simpa only[U0]using this
 obtain⟨k1,k2,_,k4,_,k6,k7,k8,_,CR,LC,zX,LD,CS,LF,_⟩:=key default;refine⟨k1,aax (n1:=31) (n2:=3) (λw=>(key w).2.2.1) k4 (λw=>(key w).2.2.2.2.1) k6 ?_⟩;exact N6 (n:=22) hi k7 (λw=>(key w).2.2.2.2.2.2.2.2.1) CR LC zX LD CS LF (λw=>(key w).2.2.2.2.2.2.2.2.2.2.2.2.2.2.2)
theorem age{b:SH}{v:Nat}(hv:0<v)(hi:Im fc 0=some (.chan (some c)))(H:∀w,fT Wg c w b=fR Wg fc c w b ((v:Int)* 4294967296))(hm:∃n,cQ SC (eM SC Im c Wg v) n 1 (Mb b)):DM SC c Wg Im v 1 b:=by
 have key:∀w,cr b=some ((137:TO),#[pW Wg 0,.int .u64 ((v:Int)* 4294967296),.int .u64 ((v:Int)* 4294967296+1)])/\bO b=true/\fx w 25 1 (fin b (.bool false))=fw w 25 1 (fin b (.bool false))/\fx w 19 1 (fin b (.bool true))=fw w 19 1 (fin b (.bool true))/\oO (f96 b)=some ((165:TypeId),(160:TypeId),pW Wg 1)/\cr (f97 Wg b)=some ((126:TO),#[pW Wg 1])/\bO (f97 Wg b)=true/\fx w 23 1 (fin (f97 Wg b) (.tuple #[]))=fw w 23 1 (fin (f97 Wg b) (.tuple #[]))/\cr (f121 Wg b)=some ((127:TO),#[pW Wg 1,.bool false])/\(f121 Wg b).offers=none/\fx w 16 1 (fin (f121 Wg b) (.tuple #[]))=fw w 16 1 (fin (f121 Wg b) (.tuple #[]))/\cr (f138 Wg b)=some ((135:TO),#[pW Wg 0])/\fx w 11 1 (fin (f138 Wg b) (.int .u64 0))=fw w 11 1 (fin (f138 Wg b) (.int .u64 0))/\cr (f150 Wg b)=some ((112:TO),(#[]:Array SP))/\fx w 3 0 (fin (f150 Wg b) (.tuple #[]))=fw w 3 0 (fin (f150 Wg b) (.tuple #[]))/\oO (f154 Wg b)=some ((158:TypeId),(160:TypeId),pW Wg 0)/\cr (f155 Wg b)=some ((123:TO),#[pW Wg 0])/\bO (f155 Wg b)=true/\fx w 12 0 (fin (f155 Wg b) (.tuple #[]))=fw w 12 0 (fin (f155 Wg b) (.tuple #[]))/\uN (f168 Wg b)=some ((139:TypeId),pW fc 0)/\qk (f168 Wg b)=true/\w6 (f169 Wg c b)=some (XN (some c))/\qk (f169 Wg c b)=true/\bO (f169 Wg c b)=true/\mayWake SC (f169 Wg c b)=true/\yV w 4 (f170 Wg c b)=yU w 4 (f170 Wg c b):=λw=>by
  have:=H w;unfold fT fR at this;simpa only[U0]using this
 obtain⟨k1,k2,_,_,k5,k6,k7,_,k9,CR,_,zX,_,CS,_,LH,LI,k18,_,LJ,LK,LM,LN,LO,LP,_⟩:=key default;refine⟨rfl,bO.out k2,⟨_,λw hW=>aqt k1 Px hW.st.1 hW.st.2.2.1,?_⟩,λu hu=>⟨_,λw hW=>aqu k1 Px hW.st.1 hW.st.2.2.1 (λe=> ?_),?_⟩⟩
 ·refine IY (λw=>(key w).2.2.2.1) ?_;have hs:SC.underlying 165=some (.pointer (Hi.choose))/\(SC.info? Hi.choose).map (λi=>decide (i.size=0))=some false:=Hi.choose_spec;refine acx (bO.out (O2 k5)) (λw x y hW=>Hb k5 hs.1 Hh hs.2 hW.st.2.1) ⟨0,rfl,bO.out k7,_,λw=>Ha .write (λ_ _ h=>by cases h) k6 agV,?_⟩;refine xa (λw=>(key w).2.2.2.2.2.2.2.1) ⟨0,rfl,bO.out (yL k9),CR,λw st hW=> ?_,fin (f121 Wg b) (.tuple #[]),λw hW=> ?_,?_⟩
  ·exact aqz k9 Pv hW.st.2.1
  ·exact aqx (n:=1) k9 Pv hW.st.2.1 (by decide) hW.st.2.2.2
  ·refine xa (λw=>(key w).2.2.2.2.2.2.2.2.2.2.1) ⟨0,rfl,bO.out (yL zX),_,λw hW=>Nc zX IQ hW.st.1,?_⟩;refine aax (n1:=11) (n2:=3) (λw=>(key w).2.2.2.2.2.2.2.2.2.2.2.2.1) CS (λw=>(key w).2.2.2.2.2.2.2.2.2.2.2.2.2.2.1) LH ?_;exact N6 (n:=12) hi LI (λw=>(key w).2.2.2.2.2.2.2.2.2.2.2.2.2.2.2.2.2.2.1) LJ LK LM LN LO LP (λw=>(key w).2.2.2.2.2.2.2.2.2.2.2.2.2.2.2.2.2.2.2.2.2.2.2.2.2)
 ·unfold KK at e;omega
 ·exact xa (λw=>(key w).2.2.1) hm
theorem mL(hi:Im fc 0=some (.chan (some c))){h:SH}{k:Nat}(hz:∀w,zT Wg c w h=zR Wg fc c w h)
  (hv:∀v,0<v->v<=k->v<=4->(∀w,fx w 48 1 (fin h (.int .u64 ((v:Int)* 4294967296)))=fw w 48 1 (fin h (.int .u64 ((v:Int)* 4294967296))))/\(∀w,fT Wg c w (f76 h ((v:Int)* 4294967296))=fR Wg fc c w (f76 h ((v:Int)* 4294967296)) ((v:Int)* 4294967296))/\eM SC Im c Wg v 1 (Mb (f76 h ((v:Int)* 4294967296)))):eM SC Im c Wg (k+1) 1 h:=by
 obtain⟨z1,z2⟩:=asb hi hz;rw[eM];refine⟨rfl,bO.out (yL z1),λv h1 h2=> ?_⟩;refine⟨_,λw hW=>Nc z1 IQ hW.st.1,λe=> ?_,λe=> ?_⟩
 ·subst e;exact z2
 ·obtain⟨q1,q2,q3⟩:=hv v (by omega) h1 h2;exact xa q1 ⟨0,age (by omega) hi q2 ⟨0,q3⟩⟩
theorem dN{l:List Int}{v:Int}(h:∀w,pT Wg fc c w l v=pR Wg fc c w l v):(∀w,fx w 48 1 (fin (hd Wg fc l) (.int .u64 v))=fw w 48 1 (fin (hd Wg fc l) (.int .u64 v)))/\(∀w,fT Wg c w (bd Wg fc l v)=fR Wg fc c w (bd Wg fc l v) v)/\(∀w,zT Wg c w (hd Wg fc (v::l))=zR Wg fc c w (hd Wg fc (v::l))):=by
 refine⟨λw=>(W1 (h w)).1,λw=>(W1 (W1 (h w)).2).1,λw=>(W1 (W1 (h w)).2).2⟩
end
section
variable (Wg fc c:Nat){Im:cx}
theorem akW(hi:Im fc 0=some (.chan (some c))):eM SC Im c Wg 1 1 (hd Wg fc [1* 4294967296]):=by
 refine mL (k:=0) hi (dN (MB Wg fc c)).2.2 λv h1 h2 h3=> ?_;omega
theorem akX(hi:Im fc 0=some (.chan (some c))):eM SC Im c Wg 1 1 (hd Wg fc [1* 4294967296,2* 4294967296]):=by
 refine mL (k:=0) hi (dN (MC Wg fc c)).2.2 λv h1 h2 h3=> ?_;omega
theorem ak4(hi:Im fc 0=some (.chan (some c))):eM SC Im c Wg 2 1 (hd Wg fc [2* 4294967296]):=by
 refine mL (k:=1) hi (dN (MK Wg fc c)).2.2 λv h1 h2 h3=> ?_;rcases(show v=1 by omega)with rfl
 ·exact⟨(dN (MC Wg fc c)).1,(dN (MC Wg fc c)).2.1,akX Wg fc c hi⟩
theorem ak1(hi:Im fc 0=some (.chan (some c))):eM SC Im c Wg 1 1 (hd Wg fc [1* 4294967296,3* 4294967296]):=by
 refine mL (k:=0) hi (dN (MG Wg fc c)).2.2 λv h1 h2 h3=> ?_;omega
theorem akY(hi:Im fc 0=some (.chan (some c))):eM SC Im c Wg 1 1 (hd Wg fc [1* 4294967296,2* 4294967296,3* 4294967296]):=by
 refine mL (k:=0) hi (dN (MD Wg fc c)).2.2 λv h1 h2 h3=> ?_;omega
theorem ak5(hi:Im fc 0=some (.chan (some c))):eM SC Im c Wg 2 1 (hd Wg fc [2* 4294967296,3* 4294967296]):=by
 refine mL (k:=1) hi (dN (ML Wg fc c)).2.2 λv h1 h2 h3=> ?_;rcases(show v=1 by omega)with rfl
 ·exact⟨(dN (MD Wg fc c)).1,(dN (MD Wg fc c)).2.1,akY Wg fc c hi⟩
theorem ak8(hi:Im fc 0=some (.chan (some c))):eM SC Im c Wg 3 1 (hd Wg fc [3* 4294967296]):=by
 refine mL (k:=2) hi (dN (MO Wg fc c)).2.2 λv h1 h2 h3=> ?_;rcases(show v=1\/v=2 by omega)with rfl|rfl
 ·exact⟨(dN (MG Wg fc c)).1,(dN (MG Wg fc c)).2.1,ak1 Wg fc c hi⟩
 ·exact⟨(dN (ML Wg fc c)).1,(dN (ML Wg fc c)).2.1,ak5 Wg fc c hi⟩
theorem ak3(hi:Im fc 0=some (.chan (some c))):eM SC Im c Wg 1 1 (hd Wg fc [1* 4294967296,4* 4294967296]):=by
 refine mL (k:=0) hi (dN (MI Wg fc c)).2.2 λv h1 h2 h3=> ?_;omega
theorem ak0(hi:Im fc 0=some (.chan (some c))):eM SC Im c Wg 1 1 (hd Wg fc [1* 4294967296,2* 4294967296,4* 4294967296]):=by
 refine mL (k:=0) hi (dN (MF Wg fc c)).2.2 λv h1 h2 h3=> ?_;omega
theorem ak7(hi:Im fc 0=some (.chan (some c))):eM SC Im c Wg 2 1 (hd Wg fc [2* 4294967296,4* 4294967296]):=by
 refine mL (k:=1) hi (dN (MN Wg fc c)).2.2 λv h1 h2 h3=> ?_;rcases(show v=1 by omega)with rfl
 ·exact⟨(dN (MF Wg fc c)).1,(dN (MF Wg fc c)).2.1,ak0 Wg fc c hi⟩
theorem ak2(hi:Im fc 0=some (.chan (some c))):eM SC Im c Wg 1 1 (hd Wg fc [1* 4294967296,3* 4294967296,4* 4294967296]):=by
 refine mL (k:=0) hi (dN (MH Wg fc c)).2.2 λv h1 h2 h3=> ?_;omega
theorem akZ(hi:Im fc 0=some (.chan (some c))):eM SC Im c Wg 1 1 (hd Wg fc [1* 4294967296,2* 4294967296,3* 4294967296,4* 4294967296]):=by
 refine mL (k:=0) hi (dN (ME Wg fc c)).2.2 λv h1 h2 h3=> ?_;omega
theorem ak6(hi:Im fc 0=some (.chan (some c))):eM SC Im c Wg 2 1 (hd Wg fc [2* 4294967296,3* 4294967296,4* 4294967296]):=by
 refine mL (k:=1) hi (dN (MM Wg fc c)).2.2 λv h1 h2 h3=> ?_;rcases(show v=1 by omega)with rfl
 ·exact⟨(dN (ME Wg fc c)).1,(dN (ME Wg fc c)).2.1,akZ Wg fc c hi⟩
theorem ak9(hi:Im fc 0=some (.chan (some c))):eM SC Im c Wg 3 1 (hd Wg fc [3* 4294967296,4* 4294967296]):=by
 refine mL (k:=2) hi (dN (MP Wg fc c)).2.2 λv h1 h2 h3=> ?_;rcases(show v=1\/v=2 by omega)with rfl|rfl
 ·exact⟨(dN (MH Wg fc c)).1,(dN (MH Wg fc c)).2.1,ak2 Wg fc c hi⟩
 ·exact⟨(dN (MM Wg fc c)).1,(dN (MM Wg fc c)).2.1,ak6 Wg fc c hi⟩
theorem ala(hi:Im fc 0=some (.chan (some c))):eM SC Im c Wg 4 1 (hd Wg fc [4* 4294967296]):=by
 refine mL (k:=3) hi (dN (MQ Wg fc c)).2.2 λv h1 h2 h3=> ?_;rcases(show v=1\/v=2\/v=3 by omega)with rfl|rfl|rfl
 ·exact⟨(dN (MI Wg fc c)).1,(dN (MI Wg fc c)).2.1,ak3 Wg fc c hi⟩
 ·exact⟨(dN (MN Wg fc c)).1,(dN (MN Wg fc c)).2.1,ak7 Wg fc c hi⟩
 ·exact⟨(dN (MP Wg fc c)).1,(dN (MP Wg fc c)).2.1,ak9 Wg fc c hi⟩
theorem hq_(hi:Im fc 0=some (.chan (some c))):eM SC Im c Wg 5 1 (hd Wg fc []):=by
 refine mL (k:=4) hi (zz Wg fc c) λv h1 h2 h3=> ?_;rcases(show v=1\/v=2\/v=3\/v=4 by omega)with rfl|rfl|rfl|rfl
 ·exact⟨(dN (MB Wg fc c)).1,(dN (MB Wg fc c)).2.1,akW Wg fc c hi⟩
 ·exact⟨(dN (MK Wg fc c)).1,(dN (MK Wg fc c)).2.1,ak4 Wg fc c hi⟩
 ·exact⟨(dN (MO Wg fc c)).1,(dN (MO Wg fc c)).2.1,ak8 Wg fc c hi⟩
 ·exact⟨(dN (MQ Wg fc c)).1,(dN (MQ Wg fc c)).2.1,ala Wg fc c hi⟩
theorem agm(hi:Im fc 0=some (.chan (some c))):HJ SC Im c Wg (born SC ⟨.fn (.func 100) #[pW Wg 0,pW fc 0],#[]⟩):=by
 have h0:∀w,fx w 7 0 (e0 Wg fc)=fw w 7 0 (e0 Wg fc)/\cr (e7 Wg fc)=some ((111:TO),(#[]:Array SP))/\fx w 19 1 (e8 Wg fc)=fw w 19 1 (e8 Wg fc):=λw=>by
  have:=c0 Wg fc w;simpa only[U0]using this
 show ∃n,cQ SC (eM SC Im c Wg 5) n 0 (e0 Wg fc);refine xa (λw=>(h0 w).1) ?_;refine M9 (bO.out (yL (h0 default).2.1)) (Mg (.inl rfl)) (λw=>G_ (λ_ h=>by cases h) (h0 default).2.1 IP) ?_;exact xa (d:=deafBehind 0 #[⟨.mark .disable,false,true⟩]) (λw=>(h0 w).2.2) ⟨0,hq_ Wg fc c hi⟩
end
open Go.Gg.Tk
section
variable {lv:Bool}{P:SJ}{r:Option Nat}{nt:Nat}{E:Env}{V:View}{a:Act}{s:AS}{c:T7}{Q:Ex->Act->View->Prop}
theorem yI(s3:AS)(ah:At E V s a nt)(h:aW lv P r nt c s (λe s'=>match e with|.normal=>s'.Sub s3|_=>False))(hQ:∀E' V' a',Kept E E' V V' a a'->At E' V' s3 a' nt->Q .normal a' V'):WP lv P r c Q a V:=
 h E V a Q ah λae e E' V' a' s' hk aR he hΦ=>by
  cases ae<;>cases e<;>first
   |exact he.elim
   |exact hΦ.elim
   |exact hQ E' V' a' hk (aR.sub hΦ)
theorem unwind_mark{lv:Bool}{P:SJ}{main:Bool}{J:View->SH->Prop}(C:Closed lv P main J){V:View}{fr:T_}{cs:List T_}{b:Nat}{ds:List UX}(h4:fr.defers={target:=.collected b,args:=#[]}::ds) (hm:(fr.mode matches .run)=false) (ho:V.own b=some (.deferred (some []))) (eX:V.role.chan≠some b) (h:J (V.upd b (.deferred none)) (G {fr with defers:=ds} cs)):J V (G fr cs):=by
 refine C.step _ _ rfl λw hw=> ?_;obtain⟨es,w',V',k1,k2,k3⟩:=(M6 (P:=P) ho eX).runs hw;rcases k3 with⟨x,k3,rfl,rfl⟩|⟨_,_,hx⟩
 ·refine⟨G {fr with defers:=ds} cs,w',seen P fr.fn es,_,?_,k1.seen P fr.fn,h⟩;have e:stepG P main (G fr cs) w=unwind P main fr cs none w:=by
   obtain⟨fn,tmps,todo,defers,mode,kind,ro⟩:=fr;cases mode with
   |run=>cases hm
   |returning=>simp[G,stepG]
   |panicking ch=>simp[G,stepG]
  rw[e];simp only[unwind,h4];simp[TC,k3,k2,T1,G]
 ·exact hx.elim
theorem fe{s s':AS}(h:∀p∈s'.T,∃b,look s.T p.1=some b/\Wk b p.2)(hH:s.H=s'.H):s.Sub s':=⟨λ_ _ e=>h _ (rJ e),hH⟩
theorem t_{E:Env}{x v:SP}(h:ap E (.val x) v):v=x:=by cases h;rfl
theorem Eu{E:Env}{cs:Array SP}(h:cH E [] cs):cs=#[]:=Array.size_eq_zero_iff.1 h.1
theorem Pg{E:Env}{l:List SP}{cs:Array SP}(h:cH E (l.map .val) cs):cs=l.toArray:=by
 have hs:cs.size=l.length:=by simpa using h.1
 refine Array.ext hs λi h1 h2=> ?_;have hi:i<l.length:=by simpa using h2
 have:=t_ (h.2 i (.val l[i]) (by simp[SQ hi]));rw[SI,SK h1]at this;simpa using this
def rH (K:Kn)(b:Nat):List SP:=.bool K.has:: .map (some b)::(K.ay.map (λn:Nat=>SG .u16 n)++(K.hours.map (λn:Nat=>SG .u16 n)++(K.less.map (λn:Nat=>SG .u16 n)++(K.aU.map (λn:Nat=>SG .u16 n)++K.first.map (SG .i64)))))
def rG (K:Kn):Obj:=.map (K.aL.zipIdx.map eC).toArray K.aL.length
theorem agB{E:Env}{K:Kn}{mp:Nat}{v:SP}(h:ap E (.agg (K.l mp)) v):v=.agg (rH K (E.blk mp)).toArray:=by
 cases h with
 |agg hs h=>
  rename_i cs;congr 1;have hl:(K.l mp).length=(rH K (E.blk mp)).length:=by simp[Kn.l,rH]
  have key:∀(i:Nat)(x:AV),(K.l mp)[i]?=some x->∀y,ap E x y->(rH K (E.blk mp))[i]?=some y:=by
   intro i x hx y hy
   match i with
   |0=>cases hx;rw[t_ hy];rfl
   |1=>cases hx;cases hy;rfl
   |i+2=>
    have e:(K.l mp)[i+2]?=((K.ay.map (λn:Nat=>SG .u16 n)++(K.hours.map (λn:Nat=>SG .u16 n)++(K.less.map (λn:Nat=>SG .u16 n)++(K.aU.map (λn:Nat=>SG .u16 n)++K.first.map (SG .i64))))).map AV.val)[i]?:=by
     simp[Kn.l,wv,iv,Yx]
    rw[e,To]at hx;obtain⟨z,h1,rfl⟩:=Ts.1 hx;rw[t_ hy];exact h1
  have nG:cs.size=(rH K (E.blk mp)).length:=hs.trans hl;refine Array.ext nG λi h1 h2=> ?_;have hi:i<(K.l mp).length:=by omega
  have:=key i _ (SQ hi) _ (h i _ (SQ hi));rw[SI,SK h1]at this;have h3:(rH K (E.blk mp)).toArray[i]?=some cs[i]:=by simpa using this
  rw[SK h2]at h3;exact(VX h3).symm
def qu (x:ai)(deep:Int)(bh:Nat):Spec:=λv _ Ow=>∃b,v=.agg (rH (gH x deep bh) b).toArray/\∀b',Ow b'=if b'=b then some (rG (gH x deep bh))else none
set_option maxRecDepth 100000 in
theorem aop:SC.funcs.size=184:=by kernel_rfl
theorem NC{x:ai}{deep:Int}{bh:Nat}(hx:x.Ok)(hA:∀h∈jA x bh,mB h/\∀ns∈fS x h,∀a∈(ie x h ns).map (db h ns),jn x a):bI (gH x deep bh):=by
 unfold gH;refine Jl hx (λt ht=> ?_) CU;obtain⟨h,h1,h2⟩:=S5.1 ht;obtain⟨ns,h3,h4⟩:=Ns h2;exact(hA h h1).2 ns h3 t h4
theorem ar1{J:View->SH->Prop}(C:yq SC false J){E:Env}{V:View}{x:ai}{bh c Wg:Nat}{deep:Int}{rv tv dv fv:SP}(hx:x.Ok)(lP:bh<=3)(hA:∀h∈jA x bh,mB h/\∀ns∈fS x h,∀a∈(ie x h ns).map (db h ns),jn x a)(ajQ:Conc E V [])
  (hr:ap E (.rp x.l) rv) (ht:ap E (.rp [iv bh]) tv) (hd:ap E (.rp [iv deep]) dv) (hf:ap E (.rp [.val (.chan (some c))]) fv) (ce:V.role=.work c Wg [qu x deep bh]) (eZ:V.deaf=0):J V (born SC ⟨.fn (.func 97) #[pW Wg 0,rv,tv,dv,fv],#[]⟩):=by
 have C':Closed false SC false J:={C with more:=λh=>by cases h};unfold born;rw[aop];refine adp C' (fr:={(default:T_)with fn:=184,defers:=[⟨.fn (.func 97) #[pW Wg 0,rv,tv,dv,fv],#[]⟩],mode:=.panicking [goexitEntry]}) (ds:=[]) rfl rfl (by kernel_rfl) ?_;refine ag6 (Q:=λa' V'=>∃b,a'.defers=[{target:=.collected b,args:=#[]},⟨.fn (.func 98) #[],#[pW Wg 0]⟩]/\V'.own b=some (.deferred (some []))/\V'.role=.work c Wg []/\V'.deaf=0) C' (by simp) F.f97 rfl ?_ ?_
 rotate_left
 ·rintro a' V' todo ⟨b,h1,h0,h2,h3⟩
  refine unwind_mark C' (ds:=[⟨.fn (.func 98) #[],#[pW Wg 0]⟩]) h1 rfl h0 (by rw[h2];simp[m8.chan]) ?_;refine adp C' (ds:=[]) rfl rfl (by kernel_rfl) ?_;exact agL Wg a'.tmps todo C h2 h3
 have cK:cH E [.val (pW Wg 0),.rp x.l,.rp [iv bh],.rp [iv deep],.rp [.val (.chan (some c))]] (#[]++#[pW Wg 0,rv,tv,dv,fv]):=by
  refine⟨rfl,λi a e=> ?_⟩
  match i,e with
  |0,e=>cases e;exact .val _
  |1,e=>cases e;exact hr
  |2,e=>cases e;exact ht
  |3,e=>cases e;exact hd
  |4,e=>cases e;exact hf
 have ah:=Bi (nt:=25) ajQ cK (by simp);simp only[br,SW]at ah;refine wp_seq ?_;refine(OA (nt:=25) (n:=0) (ds:=[]) (Φ:=λe s' ni=>e=.normal/\s'=⟨[(0,.val (pW Wg 0)),(1,.rp x.l),(2,.rp [iv bh]),(3,.rp [iv deep]),(4,.rp [.val (.chan (some c))])],[]⟩/\ni=[(.fn (.func 98) [] [],[.val (pW Wg 0)])]) rfl rfl rfl rfl rfl rfl (by kernel_rfl) ?_) E V _ _ ah trivial λae e E1 V1 a1 s1 ds1 gO vK dg Ca h1=> ?_
 ·(try simp only[seval]);exact⟨_,_,_,rfl⟩
 obtain⟨rfl,rfl,rfl⟩:=h1;cases e<;>first
  |exact Ca.elim
  |skip
 have ajZ:a1.defers=[⟨.fn (.func 98) #[],#[pW Wg 0]⟩]:=by
  match iW:a1.defers,dg with
  |[d],dg=>
   obtain⟨⟨f,first,cR,fa,ca,vs,q1,rfl,q3,q4,q5⟩,_⟩:=dg;cases q1;rw[Eu q3,Eu q4,Pg (l:=[pW Wg 0]) q5];rfl
  |[],dg=>exact dg.elim
  |_::_::_,dg=>exact dg.2.elim
 refine wp_seq ?_;refine yI ⟨[(5,.op 1 0),(0,.val (pW Wg 0)),(1,.rp x.l),(2,.rp [iv bh]),(3,.rp [iv deep]),(4,.rp [.val (.chan (some c))])],[setH [],.cells (Kn.zero.l 0) 88]⟩ vK ?_ λE2 V2 a2 b_ uh=> ?_
 ·refine aj ?_;exact fe (by simp only[seval];simp[bz,Wk.refl]) rfl
 refine wp_seq (wp_seq ?_);refine yI ⟨uG x bh deep c (pW Wg 0),wb x bh Kn.zero⟩ uh ?_ λE3 V3 a3 vZ pO=> ?_
 ·have bS:x.l=[iv x.first,iv x.hours,iv x.am,dY x.seen,bp x.pieces,bp x.aB]:=rfl;refine ak ?_;simp only[seval,bS];refine aK ((I5 (x:=x) (n:=bh) ?_));(try simp only[seval]);exact fe (by unfold uG;simp only[seval];simp[bz,Wk.refl];exact Wk.refl _) rfl
 have aj0:a3.defers=[⟨.fn (.func 98) #[],#[pW Wg 0]⟩]:=vZ.defers.trans (b_.defers.trans ajZ);have alb:V3.role=.work c Wg [qu x deep bh]:=vZ.role.trans (b_.role.trans (gO.role.trans ce));have ajU:V3.deaf=0:=vZ.deaf.trans (b_.deaf.trans (gO.deaf.trans eZ));refine alN (lv:=false) (bs:=[⟨.fn (.func 98) #[],#[pW Wg 0]⟩]) hx lP hA (λe s' cE=>e=.normal/\s'=⟨uG x bh deep c (pW Wg 0),wb x bh (gH x deep bh)++[.obj (.deferred (some [])),.gone]⟩/\cE=[4]) ⟨rfl,rfl,rfl⟩ E3 V3 a3 _ pO ⟨by simp[aj0],by simp⟩ λae e E4 V4 a4 s4 ms4 rh qZ aku he4 hΦ4=> ?_;obtain⟨rfl,rfl,rfl⟩:=hΦ4;cases e<;>first
  |exact he4.elim
  |skip
 have aj1:a4.defers=[{target:=.collected (E4.blk 4),args:=#[]},⟨.fn (.func 98) #[],#[pW Wg 0]⟩]:=aku.1;have alc:V4.role=.work c Wg [qu x deep bh]:=rh.role.trans alb;have Re:V4.deaf=0:=rh.deaf.trans ajU;have xn:bI (gH x deep bh):=NC hx hA;generalize hW:gH x deep bh=W at qZ xn;have EU:=Kn.len xn 0;refine Hq (K:=λs'=>look s'.T 23=some (.val (.chan (some c)))/\look s'.T 24=some (.agg (W.l 0))/\s'.Sub ⟨uG x bh deep c (pW Wg 0),wb x bh W++[.obj (.deferred (some [])),.gone]⟩) 2 1 rfl (by kernel_rfl) qZ ?_ λE5 V5 a5 s5 gk j8 hK=> ?_
 ·unfold uG wb;(try simp only[seval,EU]);rw[SY (i:=28) (by omega)];exact⟨rfl,fe (by simp only[seval];simp[bz,Wk.refl]) rfl⟩
 obtain⟨l23,l24,lO⟩:=hK;have EY:=j8.sub lO;have e23:a5.eval (.tmp 23)=.chan (some c):=t_ (j8.tok _ _ l23).2;have e24:a5.eval (.tmp 24)=.agg (rH W (E5.blk 0)).toArray:=agB (j8.tok _ _ l24).2;have h0:V5.own (E5.blk 0)=some (rG W):=(EY.bu.obj 0 (setH W.aL) rfl).1;have h4:V5.own (E5.blk 4)=some (.deferred (some [])):=(EY.bu.obj 4 (.obj (.deferred (some []))) rfl).1;have aE:E5.blk 4≠E5.blk 0:=λe=>by rw[e,h0]at h4;cases h4
 have hb4:E5.blk 4=E4.blk 4:=gk.le.blk 4 (by rw[qZ.bu.n];simp[wb]);refine NH rfl rfl ?_;refine⟨c,Wg,qu x deep bh,[],λb=>decide (b=E5.blk 0),e23,by rw[gk.role];exact alc,gk.deaf.trans Re,⟨E5.blk 0,by rw[hW];exact e24,λb'=> ?_⟩,?_⟩
 ·rw[hW];by_cases hb:b'=E5.blk 0
  ·subst hb;simp[h0]
  ·simp[hb]
 ·refine⟨trivial,E5.blk 4,?_,?_,rfl,gk.deaf.trans Re⟩
  ·rw[hb4];exact gk.defers.trans aj1
  ·show (if decide (E5.blk 4=E5.blk 0)=true then none else V5.own (E5.blk 4))=_;rw[if_neg (by simpa using aE)];exact h4
theorem an4(r:Option Nat):AV.parts (.val (.chan r))=some [.val (.chan r)]:=rfl
theorem ase(r:Option Nat):lX (.chan r)=[.val (.chan r)]:=rfl
theorem ama(r:Option Nat):AV.leaf (.val (.chan r))=true:=rfl
theorem NE{x y:T7}{t:Nat}{b:Bool}(ah:At E V s a nt)(hl:look s.T t=some (.val (.bool b)))(h:WP lv P r (if b then x else y) Q a V):WP lv P r (.cond (.tmp t) x y) Q a V:=by
 have hd:=(ah.tok t _ hl).2;generalize hx:a.tmps.getD t undef=v at hd;cases hd;exact wp_cond (t:=b) hx h
end
theorem Pc{E:Env}{f:Fn}{first cR:List AV}{v:SP}(h:ap E (.fn f first cR) v):∃fa ca,v=.func f fa ca/\cH E first fa/\cH E cR ca:=by
 cases h with
 |fn dL fP h1 h2=>exact⟨_,_,rfl,⟨dL,h1⟩,⟨fP,h2⟩⟩
theorem Bv{E:Env}{i o:Nat}{v:SP}(h:ap E (.op i o) v):v=.pointer (some ⟨E.blk i,o,none⟩):=by cases h;rfl
theorem Gp(x:ai)(n:Nat):∀a∈x.l,Lt n a:=by
 intro a ha;simp only[ai.l,SL,S4,or_false]at ha;rcases ha with rfl|rfl|rfl|rfl|rfl|rfl
 ·exact .val _
 ·exact .val _
 ·exact .val _
 ·rw[aaR];trivial
 ·rw[Gm];trivial
 ·rw[Gm];trivial
theorem amT(x:ai):Lt 0 (.rp x.l):=by
 rw[x8];exact Gp x 0
set_option maxRecDepth 100000 in
theorem wgT:Nw SC=147:=by kernel_rfl
def ci:T7->T7
 |.block _ c|.loop c|.scope c=>c
 |_=> .skip
noncomputable def uI:T7:=XK.body.getD .skip
noncomputable def mo:T7:=cs (cs (cs uI))
def sA:Obj:=.chan 0 #[] false 0 0 false
def jj:List AV:=bv false:: .val (.map none)::(TM 15 (wv 0)++TM 11 (iv 0))
def dp (x:ai)(deep:Int)(c:Nat):List aa:=[.part 6 x.l 76,.part 1 [iv deep] 3,.cells jj 88,.part 1 [.val (.chan (some c))] 139,.gone]
structure jm (x:ai)(deep:Int)(Hs:List aa)(E:Env)(c Wg:Nat)(rv dv fv:SP)(T:List (Nat×AV))(M:List aa)(E':Env)(V':View)(a':Act):Prop where
 ah:At E' V' ⟨T,Hs++(dp x deep c++M)⟩ a' 35
 lo:E.Lo E'
 main:E'.main=false
 defers:a'.defers=[]
 deaf:V'.deaf=0
 er:rv=.pointer (some ⟨E'.blk Hs.length,0,none⟩)
 ed:dv=.pointer (some ⟨E'.blk (Hs.length+1),0,none⟩)
 ef:fv=.pointer (some ⟨E'.blk (Hs.length+3),0,none⟩)
 dr:ap E' (.rp x.l) rv
 dd:ap E' (.rp [iv deep]) dv
 df:ap E' (.rp [.val (.chan (some c))]) fv
 fr:∀b y,E.fr b=some y->E'.fr b=some y/\b≠c/\b≠Wg
 ne:c≠Wg
section
variable {x:ai}{deep:Int}{Hs:List aa}{E:Env}{c Wg:Nat}{rv dv fv:SP}{T T':List (Nat×AV)}{M M' G:List aa}{E1 E2:Env}{V1 V2:View}{a1 a2:Act}
theorem jm.Hc(h:jm x deep Hs E c Wg rv dv fv T M E1 V1 a1)(le:E1.Le E2)(bx:a2.defers=a1.defers)(eZ:V2.deaf=V1.deaf)(ah:At E2 V2 ⟨T',Hs++(dp x deep c++M')⟩ a2 35):jm x deep Hs E c Wg rv dv fv T' M' E2 V2 a2:=by
 have hl:∀i,i<5->Hs.length+i<E1.n:=λi hi=>by rw[h.ah.bu.n];simp[dp];omega
 exact⟨ah,h.lo.trans le.lo,le.main.trans h.main,bx.trans h.defers,eZ.trans h.deaf,by have:=le.blk _ (hl 0 (by omega));rw[UK]at this;rw[this];exact h.er,by rw[le.blk _ (hl 1 (by omega))];exact h.ed,by rw[le.blk _ (hl 3 (by omega))];exact h.ef,h.dr.mono le,h.dd.mono le,h.df.mono le,λb y e=>by rw[le.fr];exact h.fr b y e,h.ne⟩
theorem jm.step(h:jm x deep Hs E c Wg rv dv fv T M E1 V1 a1)(hk:Kept E1 E2 V1 V2 a1 a2)(ah:At E2 V2 ⟨T',Hs++(dp x deep c++M')⟩ a2 35):jm x deep Hs E c Wg rv dv fv T' M' E2 V2 a2:=h.Hc hk.le hk.defers hk.deaf ah
theorem jm.to(T':List (Nat×AV))(M':List aa)(h:jm x deep Hs E c Wg rv dv fv T M E1 V1 a1){cd:T7}{Q:Ex->Act->View->Prop}(hw:aW true SC none 35 cd ⟨T,Hs++(dp x deep c++M)⟩ (λe s'=>match e with|.normal=>s'.Sub ⟨T',Hs++(dp x deep c++M')⟩|_=>False))
  (hQ:∀E2 V2 a2,Kept E1 E2 V1 V2 a1 a2->jm x deep Hs E c Wg rv dv fv T' M' E2 V2 a2->Q .normal a2 V2):WP true SC none cd Q a1 V1:=
 yI ⟨T',Hs++(dp x deep c++M')⟩ h.ah hw λE2 V2 a2 hk ah=>hQ E2 V2 a2 hk (h.step hk ah)
theorem jm.cut(h:jm x deep Hs E c Wg rv dv fv T (M++G) E1 V1 a1)(hE:E.n<=Hs.length)(hT:∀p∈T',∃b,look T p.1=some b/\Wk b p.2/\Lt (Hs.length+5+M.length) p.2)(az:bP (Hs++(dp x deep c++M))):jm x deep Hs E c Wg rv dv fv T' M {E1 with n:=Hs.length+5+M.length} V1 a1:=by
 have hlen:(Hs++(dp x deep c++M)).length=Hs.length+5+M.length:=by simp[dp];omega
 have hc:=h.ah.cut (s':=⟨T',Hs++(dp x deep c++M)⟩) ⟨λt a e=>by
  obtain⟨b,h1,h2,h3⟩:=hT _ (rJ e);exact⟨b,h1,h2,by rw[hlen];exact h3⟩,⟨G,by simp⟩,az⟩
 simp only[hlen]at hc;exact⟨hc,h.lo.cut (by omega),h.main,h.defers,h.deaf,h.er,h.ed,h.ef,h.dr.trim (by rw[x8];exact Gp x _),h.dd.trim (by simp[x8,eI]),h.df.trim (by simp[x8,eI]),h.fr,h.ne⟩
theorem aav(hH:bP Hs)(hM:∀z∈M,eV (Hs.length+5+M.length) z):bP (Hs++(dp x deep c++M)):=by
 intro y hy;have hlen:(Hs++(dp x deep c++M)).length=Hs.length+5+M.length:=by simp[dp];omega
 rw[hlen];rcases SS.1 hy with h|h
 ·exact(hH y h).mono (by omega)
 ·rcases SS.1 h with h|h
  ·simp only[dp,SL,S4,or_false]at h;rcases h with rfl|rfl|rfl|rfl|rfl
   ·exactλa ha=>Gp x _ a ha
   ·intro a ha;simp at ha;subst ha;exact .val _
   ·intro a ha;simp only[jj,SL,SS,Xv]at ha;rcases ha with rfl|rfl|⟨_,rfl⟩|⟨_,rfl⟩<;>exact .val _
   ·intro a ha;simp at ha;subst ha;exact .val _
   ·trivial
  ·exact hM y h
end
def oE (x:ai)(deep:Int)(i:Nat):List (List Spec):=(SZ i).map λk=>[qu x deep k]
theorem Na(x:ai)(deep:Int)(i:Nat):(oE x deep i).length=i:=by simp[oE]
theorem aqk(x:ai)(deep:Int)(i:Nat):oE x deep (i+1)=oE x deep i++[[qu x deep i]]:=by simp[oE,Vk]
def wS (x:ai):Prop:=∀bh,bh<=3->∀h∈jA x bh,mB h/\∀ns∈fS x h,∀a∈(ie x h ns).map (db h ns),jn x a
noncomputable def ju (Hs:List aa)(Wg:Nat)(n:Int)(i:Nat):List (Nat×AV):=[(16,iv i),(15,iv n),(6,.val (pW Wg 0)),(5,.op (Hs.length+3) 0),(4,.op (Hs.length+2) 0),(3,.op (Hs.length+1) 0),(2,.op Hs.length 0)]
structure vc (x:ai)(deep:Int)(Hs:List aa)(E:Env)(c Wg:Nat)(rv dv fv:SP)(i:Nat)(T:List (Nat×AV))(M:List aa)(E':Env)(V':View)(a':Act):Prop where
 ok:jm x deep Hs E c Wg rv dv fv T M E' V' a'
 role:V'.role=.fork c Wg (oE x deep i)
 EG:E'.fr c=some sA
 BG:E'.fr Wg=some (wgBlock SC ((i:Int)* 4294967296) 0)
section
variable {x:ai}{deep n:Int}{Hs:List aa}{E:Env}{c Wg i:Nat}{rv dv fv:SP}{T T':List (Nat×AV)}{M M':List aa}{E1 E2:Env}{V1 V2:View}{a1 a2:Act}
theorem vc.step(h:vc x deep Hs E c Wg rv dv fv i T M E1 V1 a1)(hk:Kept E1 E2 V1 V2 a1 a2)(hc:jm x deep Hs E c Wg rv dv fv T' M' E2 V2 a2):vc x deep Hs E c Wg rv dv fv i T' M' E2 V2 a2:=
 ⟨hc,hk.role.trans h.role,by rw[hk.le.fr];exact h.EG,by rw[hk.le.fr];exact h.BG⟩
theorem al0(hx:x.Ok)(hA:wS x)(zb:E.n<=Hs.length)(az:bP (Hs++(dp x deep c++[])))(h:vc x deep Hs E c Wg rv dv fv i (ju Hs Wg n i) [] E1 V1 a1)(hi:i<=3){cd:T7}{Q:Ex->Act->View->Prop}(hcd:cd=cs (cs (ci (ci (cs (cf mo))))))
  (hQ:∀E2 V2 a2,vc x deep Hs E c Wg rv dv fv (i+1) (ju Hs Wg n (i+1)) [] E2 V2 a2->Q .normal a2 V2):WP true SC none cd Q a1 V1:=by
 subst hcd;refine wp_seq (wp_block (wp_seq ?_));refine h.ok.to ((7,.op (Hs.length+5) 0)::ju Hs Wg n i) [.cells [iv i] 3] ?_ λE2 V2 a2 b_ cT=> ?_
 ·unfold ju dp;refine aj ?_;exact fe (by simp only[seval];simp[bz,Wk.refl]) rfl
 have h2:=h.step b_ cT;obtain⟨V3,g3,o3,r3,d3,Gh,Iw,O9⟩:=cT.ah.bu.GU (id:=Hs.length+5) (by rw[aX];rfl) 1 (by simp);rw[ec]at Iw;have Ku:Kept E2 {E2 with I:=V3.ab} V2 V3 a2 a2:=⟨Gh,rfl,rfl,r3,d3⟩;have dO:=cT.step (T':=(7,.op (Hs.length+5) 0)::ju Hs Wg n i) (M':=[.part 1 [iv i] 3]) Ku ⟨Iw,cT.ah.tok.mono Gh,cT.ah.size⟩;have h3:=h2.step Ku dO;refine WP.ghost g3 ?_;generalize{E2 with I:=V3.ab}=E3 at Gh Iw O9 Ku dO h3;have e6:a2.eval (.tmp 6)=pW Wg 0:=t_ (dO.ah.tok 6 (.val (pW Wg 0)) rfl).2;obtain⟨w1,w2,w3⟩:=dO.ah.bu.fr Wg _ h3.BG;have hrc:V3.role.chan≠some Wg:=by rw[h3.role];intro e;cases e;exact dO.ne rfl
 refine wp_seq (adx rfl rfl (anN rfl rfl (by kernel_rfl) ?_));have cK:(#[atL 6,atY (.int .i64 1)]:Array Tm).map a2.eval=#[pW Wg 0,.int .i64 1]:=by
  simp only[List.map_toArray,UP,List.map_nil,e6];rfl
 rw[cK];refine(aeE (n:=i) (sm:=Nw SC) (by omega) w1 w2 hrc dO.deaf).mono λo V4 hV=> ?_;obtain⟨rfl,rfl⟩:=hV;dsimp only;refine ar5 ?_;let wH:Obj:=wgBlock SC (((i+1:Nat):Int)* 4294967296) 0;show WP true SC none _ _ (a2.put (some 19) (.tuple #[])) (V3.upd Wg wH);have sB:=dO.ah.bu.ai2 h3.BG wH;let f4:Nat->Option Obj:=λb'=>if b'=Wg then some wH else E3.fr b';have ma:jm x deep Hs E c Wg rv dv fv ((7,.op (Hs.length+5) 0)::ju Hs Wg n i) [.part 1 [iv i] 3] (E3.frame f4) (V3.upd Wg wH) (a2.put (some 19) (.tuple #[])):=by
  refine⟨⟨sB,λt av e=> ?_,(d_ a2 (some 19) _).trans dO.ah.size⟩,dO.lo.trans (Env.Gk E3 f4),dO.main,(put_defers a2 _ _).trans dO.defers,dO.deaf,dO.er,dO.ed,dO.ef,dO.dr.frame f4,dO.dd.frame f4,dO.df.frame f4,λb y e=> ?_,dO.ne⟩
  ·have aE:t≠19:=by
    intro et;subst et;simp[ju,look]at e
   have:=((dO.ah.tok.frame f4).put (d:=19) (a:=.aJ []) (v:=.tuple #[]) (by rw[dO.ah.size];omega) (.aJ rfl (by simp))) t av (by simp only[look];rw[if_neg (Ne.symm aE)];exact e);exact this
  ·obtain⟨q1,q2,q3⟩:=dO.fr b y e;exact⟨by show (if b=Wg then _ else _)=_;rw[if_neg q3];exact q1,q2,q3⟩
 have Pm:ap (E3.frame f4) (.rp [iv i]) (.pointer (some ⟨(E3.frame f4).blk (Hs.length+5),0,none⟩)):=by
  have hl:Hs.length+5<E2.n:=by rw[cT.ah.bu.n];simp[dp]
  have e:(E3.frame f4).blk (Hs.length+5)=E2.blk (Hs.length+5):=Gh.blk _ hl;rw[e];exact O9.frame f4
 have GZ:(V3.upd Wg wH).role=.fork c Wg (oE x deep i):=h3.role;have Qr:(E3.frame f4).fr c=some sA:=by
  show (if c=Wg then _ else _)=_;rw[if_neg dO.ne];exact h3.EG
 have Qs:(E3.frame f4).fr Wg=some wH:=by
  show (if Wg=Wg then _ else _)=_;rw[if_pos rfl]
 generalize E3.frame f4=E4 at ma Pm Qr Qs;generalize V3.upd Wg wH=V4 at ma GZ;generalize a2.put (some 19) (.tuple #[])=a4 at ma;clear sB;refine Hq (K:=λs'=>look s'.T 20=some (.fn (.func 97) [] [.val (pW Wg 0),.op Hs.length 0,.op (Hs.length+5) 0,.op (Hs.length+1) 0,.op (Hs.length+3) 0])/\s'.Sub ⟨ju Hs Wg n i,Hs++(dp x deep c++[.part 1 [iv i] 3])⟩) 1 1 rfl (by kernel_rfl) ma.ah ?_ λE5 V5 a5 s5 gk j8 hK=> ?_
 ·unfold ju dp;(try simp only[seval,T8,UA,Uh,TP]);exact fe (by simp only[seval];simp[bz,Wk.refl]) rfl
 obtain⟨l20,lO⟩:=hK;have EY:=j8.sub lO;have cz:=ma.step gk EY;have Dd:V5.role=.fork c Wg (oE x deep i):=gk.role.trans GZ;have vE:E5.fr c=some sA:=by rw[gk.le.fr];exact Qr
 have BH:E5.fr Wg=some wH:=by rw[gk.le.fr];exact Qs
 have dk5:=Pm.mono gk.le;have pY:Hs.length+5<E4.n:=by rw[ma.ah.bu.n];simp[dp]
 refine NH rfl rfl ?_;obtain⟨c1,c2,c3⟩:=cz.ah.bu.fr c _ vE;obtain⟨v1,v2,v3⟩:=cz.ah.bu.fr Wg _ BH;have e20:a5.eval (.tmp 20)=.func (.func 97) #[] #[pW Wg 0,rv,.pointer (some ⟨E5.blk (Hs.length+5),0,none⟩),dv,fv]:=by
  obtain⟨fa,ca,q1,q2,q3⟩:=Pc (j8.tok 20 _ l20).2;rw[Eu q2]at q1;refine q1.trans ?_;have KY:ca.size=5:=q3.1;have k0:=t_ (q3.2 0 _ rfl);have k1:=Bv (q3.2 1 _ rfl);have k2:=Bv (q3.2 2 _ rfl);have k3:=Bv (q3.2 3 _ rfl);have k4:=Bv (q3.2 4 _ rfl);rw[<- cz.er]at k1;rw[<- cz.ed]at k3;rw[<- cz.ef]at k4;congr 1;refine Array.ext KY λj h1 h2=> ?_;have hj:j=0\/j=1\/j=2\/j=3\/j=4:=by omega
  rw[SI,SK (by omega)]at k0 k1 k2 k3 k4;rcases hj with rfl|rfl|rfl|rfl|rfl
  ·exact k0
  ·exact k1
  ·exact k2
  ·exact k3
  ·exact k4
 refine⟨rfl,.tmp 20,97,#[],_,rfl,e20,cz.deaf,.inl ⟨c,Wg,oE x deep i,qu x deep i,[],Dd,c1,?_,?_,v2,λJ0 C=> ?_,?_⟩⟩
 ·rw[v1,Na]
 ·rw[Na];omega
 ·have hb:E5.blk (Hs.length+5)=E4.blk (Hs.length+5):=gk.le.blk _ pY;rw[hb];have:=ar1 (J:=J0) (V:={ab:=V5.ab,own:=λ_=>none,deaf:=0,role:=.work c Wg [qu x deep i]}) C hx hi (hA i hi) (agp cz.ah.bu.I rfl rfl) (cz.dr.bare (amT x)) (dk5.bare (by simp[x8,eI])) (cz.dd.bare (by simp[x8,eI])) (cz.df.bare (by simp[x8,eI])) rfl rfl;simpa using this
 let V6:View:={V5 with role:=.fork c Wg (oE x deep i++[[qu x deep i]])};have Ix:Conc (E5.frame E5.fr) V6 (Hs++(dp x deep c++[.part 1 [iv i] 3])):=by
  refine cz.ah.bu.yf (V':=V6) _ rfl (λ_ _ _ _ _ _ h=>h) (λg hg=> ?_) (λg hg=> ?_) (λhm=>by rw[cz.main]at hm;cases hm) cz.ah.bu.fr
  ·cases hg;exact⟨by show V5.own Wg≠none;rw[v1];simp,v2,v3⟩
  ·cases hg;exact⟨by show V5.own c≠none;rw[c1];simp,c2,c3⟩
 have oh:jm x deep Hs E c Wg rv dv fv (ju Hs Wg n i) [.part 1 [iv i] 3] E5 V6 (a5.put none undef):=⟨⟨Ix,cz.ah.tok,cz.ah.size⟩,cz.lo,cz.main,cz.defers,cz.deaf,cz.er,cz.ed,cz.ef,cz.dr,cz.dd,cz.df,cz.fr,cz.ne⟩;show WP true SC none _ _ (a5.put none undef) V6;refine oh.to (ju Hs Wg n (i+1)) [.part 1 [iv i] 3] ?_ λE7 V7 a7 ov B6=> ?_
 ·unfold ju dp;have hw:SF.wrap ((i:Int)+1)=(i:Int)+1:=bG _ (by omega);refine ak ?_;simp only[seval,hw];exact fe (by simp only[seval];simp[bz,Wk.refl]) rfl
 have eY:=jm.cut (M:=[]) (T':=ju Hs Wg n (i+1)) B6 zb (by
  unfold ju;simp only[Xg,S4,false_imp_iff,implies_true,and_true,look,ZC,if_false,if_true,Tn,exists_eq_left',Wk.refl,true_and,eI,aaO,UQ];omega) az
 refine hQ _ V7 a7 ⟨eY,?_,?_,?_⟩
 ·rw[ov.role,aqk]
 ·show E7.fr c=_;rw[ov.le.fr];exact vE
 ·show E7.fr Wg=_;rw[ov.le.fr];exact BH
end
namespace Tk
theorem abJ{hs:List (List Int)}{h:List Int}(hn:hs.Nodup):(jF hs h).Nodup:=by
 unfold jF;split
 ·exact hn
 ·rename_i hm;rw[U5];exact⟨hn,by simp,λa ha b hb=>by rw[S9.1 hb];exactλe=>hm (e▸ha)⟩
theorem aq9{x:ai}{deep:Int}{Q:Kn}{t:List Int}(hn:Q.aL.Nodup):(ep x deep Q t).aL.Nodup:=by
 have hB:(jO Q t).aL.Nodup:=by unfold jO;split<;>exact hn
 unfold ep;dsimp only;generalize jO Q t=R at hB;split
 ·exact hB
 ·split
  ·exact abJ hB
  ·exact hB
theorem arZ{x:ai}{deep:Int}{bh:Nat}:(gH x deep bh).aL.Nodup:=by
 unfold gH;have key:∀(ts:List (List Int))(Q:Kn),Q.aL.Nodup->(ts.foldl (ep x deep) Q).aL.Nodup:=by
  intro ts;induction ts with
  |nil=>exactλQ h=>h
  |cons t ts ih=>exactλQ h=>ih _ (aq9 h)
 exact key _ _ WO
theorem Qg:∀{l hs:List (List Int)},(∀y∈hs,y.length=4)->(∀y∈l,y.length=4)->∀y∈l.foldl jF hs,y.length=4
 |[],hs,h1,_=>h1
 |a::l,hs,h1,h2=>by rw[UR];exact Qg (abH h1 (h2 a (by simp))) (λy hy=>h2 y (by simp[hy]))
theorem GF{l m:List Nat}(h:l.length=m.length):(ly l m).length=l.length:=by simp[ly,h]
theorem GG{l m:List Nat}(h1:∀n∈l,n<65536)(h2:∀n∈m,n<65536):∀n∈ly l m,n<65536:=λn hn=>by
 unfold ly at hn;rw[UO]at hn;obtain⟨i,hi⟩:=hn;rw[List.getElem?_zipWith]at hi;cases ha:l[i]?with
 |none=>rw[ha]at hi;cases hi
 |some a=>
  cases hb:m[i]?with
  |none=>rw[ha,hb]at hi;cases hi
  |some b=>
   rw[ha,hb]at hi;cases hi;exact pn (h1 _ (Tf ha)) (h2 _ (Tf hb))
theorem aan{F G:Kn}{hs:List (List Int)}(hF:bI F)(hG:bI G)(hp:hs.Perm G.aL):bI (gp F hs G):=by
 unfold gp;split
 ·refine⟨(GF (by rw[hF.ay,hG.ay])).trans hF.ay,(GF (by rw[hF.hours,hG.hours])).trans hF.hours,(GF (by rw[hF.less,hG.less])).trans hF.less,(GF (by rw[hF.aU,hG.aU])).trans hF.aU,?_,GG hF.mu hG.mu,GG hF.l_ hG.l_,GG hF.mS hG.mS,GG hF.lT hG.lT,Qg hF.h4 λy hy=>hG.h4 y (hp.mem_iff.1 hy)⟩;split
  ·exact hG.first
  ·exact hF.first
 ·exact hF
inductive nU (x:ai)(deep:Int):List Nat->Kn->Prop where
 |nil:nU x deep [] Kn.zero
 |snoc {js:List Nat} {F:Kn} {j:Nat} {hs:List (List Int)} (h:nU x deep js F) (hp:hs.Perm (gH x deep j).aL):nU x deep (js++[j]) (gp F hs (gH x deep j))
end Tk
theorem wS.work{x:ai}{deep:Int}{j:Nat}(hA:wS x)(hx:x.Ok)(hj:j<=3):bI (gH x deep j):=NC hx (hA j hj)
def mV (x:ai)(deep:Int)(n:Nat)(js:List Nat):List (List Spec):=(SZ n).map λk=>if k∈js then[]else[qu x deep k]
theorem aqn(x:ai)(deep:Int)(n:Nat):mV x deep n []=oE x deep n:=by simp[mV,oE]
theorem aqm{x:ai}{deep:Int}{n j:Nat}{js:List Nat}{sp:Spec}{S:List Spec}(h:(mV x deep n js)[j]?=some (sp::S)):j<n/\j∉js/\sp=qu x deep j/\S=[]:=by
 unfold mV at h;rw[To]at h;obtain⟨k,h1,h2⟩:=Ts.1 h;have hk:j<n/\k=j:=by
  have:=SM.1 h1;obtain⟨h3,h4⟩:=this;simp at h3 h4;exact⟨h3,h4.symm⟩
 obtain⟨h3,rfl⟩:=hk;split at h2
 ·cases h2
 ·rename_i hm;cases h2;exact⟨h3,hm,rfl,rfl⟩
theorem aqo{x:ai}{deep:Int}{n j:Nat}{js:List Nat}:(mV x deep n js).set j []=mV x deep n (js++[j]):=by
 apply Yo;intro k;unfold mV;rw[UU,To,To,Tp,ZE];by_cases hk:k<n
 ·rw[Xw hk];by_cases hj:j=k
  ·subst hj;rw[if_pos rfl,if_pos hk];simp
  ·rw[if_neg hj];have e:(k∈js++[j])<->k∈js:=by
    rw[SS,S9];exact⟨λh=>h.elim id λe=>absurd e.symm hj,.inl⟩
   simp only[UM,e]
 ·have e:(SZ n)[k]?=none:=Ut (by simp;omega);rw[e];by_cases hj:j=k
  ·subst hj;rw[if_pos rfl,if_neg hk];rfl
  ·rw[if_neg hj];rfl
theorem aql{x:ai}{deep:Int}{n:Nat}{js:List Nat}(h:∀S∈mV x deep n js,S=[]):∀k,k<n->k∈js:=λk hk=>by
 apply Tl;intro hn;have:=h [qu x deep k] (Td.2 ⟨k,by simpa using hk,by rw[if_neg hn]⟩);cases this
theorem alY{E:Env}{K:Kn}{mp b:Nat}(hb:E.blk mp=b)(hm:mp<E.n):ap E (.agg (K.l mp)) (.agg (rH K b).toArray):=by
 subst hb;refine .agg (by simp[Kn.l,rH]) λi a e=> ?_
 match i with
 |0=>cases e;exact .val _
 |1=>cases e;exact .mp hm
 |i+2=>
  have e':(K.l mp)[i+2]?=((K.ay.map (λn:Nat=>SG .u16 n)++(K.hours.map (λn:Nat=>SG .u16 n)++(K.less.map (λn:Nat=>SG .u16 n)++(K.aU.map (λn:Nat=>SG .u16 n)++K.first.map (SG .i64))))).map AV.val)[i]?:=by
   simp[Kn.l,wv,iv,Yx]
  rw[e',To]at e;obtain⟨z,h1,rfl⟩:=Ts.1 e;have h2:(rH K (E.blk mp))[i+2]?=some z:=h1;rw[SI,Ve,h2];exact .val _
theorem uH(K:Kn)(mp:Nat):∀a∈K.l mp,a.leaf=true:=λa ha=>by
 simp only[Kn.l,SL,SS,Td]at ha;rcases ha with rfl|rfl|⟨_,_,rfl⟩|⟨_,_,rfl⟩|⟨_,_,rfl⟩|⟨_,_,rfl⟩|⟨_,_,rfl⟩<;>rfl
theorem afq{lv:Bool}{P:SJ}{r:Option Nat}{nt:Nat}{E:Env}{V:View}{a:Act}{s:AS}{c:T7}{Q:Ex->Act->View->Prop}{α:Type}(p:α->Prop)(S3:α->AS)(ah:At E V s a nt)(h:aW lv P r nt c s (λe s'=>match e with|.normal=>∃q,p q/\s'.Sub (S3 q)|_=>False))(hQ:∀q E' V' a',p q->Kept E E' V V' a a'->At E' V' (S3 q) a' nt->Q .normal a' V'):WP lv P r c Q a V:=
 h E V a Q ah λae e E' V' a' s' hk aR he hΦ=>by
  cases ae<;>cases e<;>first
   |exact he.elim
   |exact hΦ.elim
   |(obtain⟨q,h1,h2⟩:=hΦ
     exact hQ q E' V' a' h1 hk (aR.sub h2))
theorem agD{E:Env}(l:List SP):ap E (.agg (l.map .val)) (.agg l.toArray):=by
 refine .agg (by simp) λi a e=> ?_;rw[To]at e;obtain⟨z,h1,rfl⟩:=Ts.1 e;rw[SI,Ve,h1];exact .val _
def NQ:List SP:=.bool false:: .map none::(TM 15 (.int .u16 0)++TM 11 (.int .i64 0))
def hO (Hs:List aa)(F:Kn):List aa:=[setH F.aL,.cells (F.l (Hs.length+5)) 88]
noncomputable def ji (Hs:List aa):List (Nat×AV):=[(8,.op (Hs.length+6) 0),(5,.op (Hs.length+3) 0),(4,.op (Hs.length+2) 0)]
structure D4 (x:ai)(deep:Int)(n:Nat)(Hs:List aa)(E:Env)(c Wg:Nat)(rv dv fv:SP)(js:List Nat)(F:Kn)(T:List (Nat×AV))(G:List aa)(E':Env)(V':View)(a':Act):Prop where
 ok:jm x deep Hs E c Wg rv dv fv T (hO Hs F++G) E' V' a'
 role:V'.role=.recv c Wg (mV x deep n js)
 aao:nU x deep js F
 kn:bI F
 nodup:js.Nodup
 lt:∀j∈js,j<n
noncomputable def aau:T7:=ci (ci (cs (cs (cs mo))))
theorem alZ{x:ai}{deep:Int}{Hs:List aa}{c:Nat}{F:Kn}(hH:bP Hs):bP (Hs++(dp x deep c++hO Hs F)):=by
 refine aav hH λz hz=> ?_;simp only[hO,SL,S4,or_false]at hz;rcases hz with rfl|rfl
 ·trivial
 ·exact xX (by simp[hO])
theorem am0{V:View}{Im:cx}{b:Nat}{K:Kn}{w:Tq}(hS:Sat V w)(hI:∀b o x,Im b o=some x->w.cell? ⟨b,o,none⟩=some x)(hb:w.heap[b]?=some (rG K)):∀o,V.ab b o=none/\Im b o=none:=λo=>by
 have hc:w.cell? ⟨b,o,none⟩=none:=by simp[Ux,hb,rG]
 constructor
 ·cases h:V.ab b o with
  |none=>rfl
  |some v=>have:=hS.ab b o v h;rw[hc]at this;cases this
 ·cases h:Im b o with
  |none=>rfl
  |some v=>have:=hI b o v h;rw[hc]at this;cases this
section
variable {x:ai}{deep:Int}{n:Nat}{Hs:List aa}{E:Env}{c Wg:Nat}{js:List Nat}{D:Kn}{rv dv fv:SP}{T T':List (Nat×AV)}{G G':List aa}{E1 E2:Env}{V1 V2:View}{a1 a2:Act}
theorem al1(hx:x.Ok)(hA:wS x)(R0:n<=4)(zb:E.n<=Hs.length)(bU:bP Hs)(h:D4 x deep n Hs E c Wg rv dv fv js D (ji Hs) [] E1 V1 a1){Q:Ex->Act->View->Prop}
  (hQ:∀j D' E2 V2 a2,j∉js->D4 x deep n Hs E c Wg rv dv fv (js++[j]) D' (ji Hs) [] E2 V2 a2->Q .normal a2 V2)
  (ET:∀E2 V2 a2 G,At E2 V2 ⟨[(4,.op (Hs.length+2) 0)],Hs++([.part 6 x.l 76,.part 1 [iv deep] 3,.cells (D.l (Hs.length+5)) 88,.part 1 [.val (.chan (some c))] 139,.gone,setH D.aL]++G)⟩ a2 35->E.Lo E2->a2.defers=[]->V2.deaf=0->V2.role=.plain->(∀b y,E.fr b=some y->E2.fr b=some y)->(∀k,k<n->k∈js)->Q .ret a2 V2):WP true SC none aau Q a1 V1:=by
 refine wp_block (id:=3) (wp_seq ?_);refine Hq (K:=λs'=>look s'.T 26=some (.val (.chan (some c)))/\s'.Sub ⟨ji Hs,Hs++(dp x deep c++(hO Hs D++[]))⟩) 1 7 rfl (by kernel_rfl) h.ok.ah ?_ λE3 V3 a3 s3 vZ pO hK=> ?_
 ·unfold ji dp hO;(try simp only[seval]);exact fe (by simp only[seval];simp[bz,Wk.refl]) rfl
 obtain⟨l26,lO⟩:=hK;have dO:=h.ok.step vZ (pO.sub lO);have ro3:V3.role=.recv c Wg (mV x deep n js):=vZ.role.trans h.role;have e26:a3.eval (.tmp 26)=.chan (some c):=t_ (pO.tok 26 _ l26).2;obtain⟨ti,v9,hzi⟩:=Tg.1 F.N2;refine ar4 rfl rfl (.inr ?_);refine⟨rfl,c,Wg,mV x deep n js,.both,88,ti,_,e26,by kernel_rfl,v9,hzi,ro3,dO.deaf,λj sp S v Im Ow r1 r2 r3 r4 r5=> ?_,λhS=> ?_⟩
 ·
  obtain⟨oW,io,rfl,rfl⟩:=aqm r1;obtain⟨b,hv,JG⟩:=r2;have xn:bI (gH x deep j):=hA.work hx (by omega);have QS:(gH x deep j).aL.Nodup:=arZ;obtain⟨W,hW⟩:∃W,W=gH x deep j:=⟨_,rfl⟩;rw[<- hW]at hv JG xn QS;let pA:View:={V3 with ab:=λb o=>match V3.ab b o with|some x=>some x|none=>Im b o,role:=.recv c Wg ((mV x deep n js).set j [])};obtain⟨aaz,O1⟩:=dO.ah.bu.amp (V':=pA) rfl (λb o v e=>by show (match V3.ab b o with|some x=>some x|none=>Im b o)=some v;rw[e]) (λb o hb e=>by
   show (match V3.ab b o with|some x=>some x|none=>Im b o)=none;rw[e];apply Tl;intro aE;exact absurd e (r4 b o hb aE)) rfl rfl (λhm=>by rw[dO.main]at hm;cases hm)
  have JF:Ow b=some (rG W):=by rw[JG];simp
  obtain⟨w,hSw,hIw,hww⟩:=r5;have iX:=am0 hSw hIw (hww b _ JF);have ja:V3.own b=none:=by
   apply Tl;intro aE;have:=r3 b aE;rw[JF]at this;cases this
  have Kc:pA.fresh b:=⟨ja,λo=>by
   show (match V3.ab b o with|some x=>some x|none=>Im b o)=none;rw[(iX o).1];exact(iX o).2⟩
  have ako:E3.n=Hs.length+7:=by rw[dO.ah.bu.n];simp[dp,hO]
  have sB:=O1.add Kc (rG W) (x:=.obj (rG W)) ⟨by rw[Env.dI];simp[View.upd],rfl,rfl,λo=>by rw[Env.dI];exact Kc.2 o⟩ (λb' e=>by
   simp only[bM,Env.dI,Tn]at e;exact e.symm)
  have QP:pA.upd b (rG W)={V3 with ab:=λb o=>match V3.ab b o with|some x=>some x|none=>Im b o,own:=λb=>match V3.own b with|some x=>some x|none=>Ow b,role:=.recv c Wg ((mV x deep n js).set j [])}:=by
   have:(λb'=>if b'=b then some (rG W)else V3.own b')=λb=>match V3.own b with|some x=>some x|none=>Ow b:=by
    funext b';by_cases hb:b'=b
    ·subst hb;rw[if_pos rfl,ja,JF]
    ·rw[if_neg hb];cases dB:V3.own b' with
     |some y=>rfl
     |none=>simp[JG,hb]
   show View.mk _ _ _ _=View.mk _ _ _ _;congr 1
  have QH:(({E3 with I:=pA.ab}:Env).add b pA.ab).blk (Hs.length+7)=b:=by rw[<- ako];exact Env.dI ({E3 with I:=pA.ab}:Env) b _
  have LX:E3.Le (({E3 with I:=pA.ab}:Env).add b pA.ab):=aaz.trans (Env.qj _ b λ_ _ _ e=>e);have akv:(({E3 with I:=pA.ab}:Env).add b pA.ab).n=Hs.length+8:=by show E3.n+1=_;omega
  rw[QP]at sB;generalize hE4:(({E3 with I:=pA.ab}:Env).add b pA.ab)=E4 at sB QH LX akv;have bk:ap E4 (.aJ [.agg (W.l (Hs.length+7)),bv true]) (.tuple #[v,.bool true]):=by
   subst hv;refine .aJ rfl λq a e=> ?_
   match q,e with
   |0,e=>cases e;exact alY QH (by omega)
   |1,e=>cases e;exact .val _
  have ajv:Hs++(dp x deep c++(hO Hs D++[]))++[aa.obj (rG W)]=Hs++(dp x deep c++(hO Hs D++[setH W.aL])):=by simp[setH,rG]
  rw[ajv]at sB;clear QP hE4 O1 aaz Kc;generalize QQ:({V3 with ab:=λb o=>match V3.ab b o with|some x=>some x|none=>Im b o,own:=λb=>match V3.own b with|some x=>some x|none=>Ow b,role:=.recv c Wg ((mV x deep n js).set j [])}:View)=V4 at sB;have GZ:V4.role=.recv c Wg (mV x deep n (js++[j])):=by rw[<- QQ];show m8.recv c Wg _=_;rw[aqo]
  have de4:V4.deaf=V3.deaf:=by rw[<- QQ]
  have qZ:At E4 V4 ⟨(27,.aJ [.agg (W.l (Hs.length+7)),bv true])::ji Hs,Hs++(dp x deep c++(hO Hs D++[setH W.aL]))⟩ (a3.put (some 27) (.tuple #[v,.bool true])) 35:=⟨sB,(dO.ah.tok.mono LX).put (by rw[dO.ah.size];omega) bk,(d_ a3 (some 27) _).trans dO.ah.size⟩;have ma:jm x deep Hs E c Wg rv dv fv ((27,.aJ [.agg (W.l (Hs.length+7)),bv true])::ji Hs) (hO Hs D++[setH W.aL]) E4 V4 (a3.put (some 27) (.tuple #[v,.bool true])):=
   dO.Hc LX (put_defers a3 _ _) de4 qZ
  have EU:=Kn.len xn (Hs.length+7);refine NI ⟨(10,bv true)::(9,.op (Hs.length+8) 0)::ji Hs,Hs++(dp x deep c++(hO Hs D++[setH W.aL,.cells (W.l (Hs.length+7)) 88]))⟩ rfl (by kernel_rfl) qZ ?_ λE5 V5 a5 gk j8=> ?_
  ·unfold ji dp hO;(try simp only[seval,EU]);exact⟨uH _ _,fe (by simp only[seval];simp[bz,Wk.refl]) rfl⟩
  have cz:=ma.step gk j8;have Dd:V5.role=.recv c Wg (mV x deep n (js++[j])):=gk.role.trans GZ;refine wp_seq (wp_seq ?_);refine cz.to ((31,bv false)::(9,.op (Hs.length+8) 0)::ji Hs) (hO Hs D++[setH W.aL,.cells (W.l (Hs.length+7)) 88]) ?_ λE6 V6 a6 Kt oh=> ?_
  ·unfold ji dp hO;refine aj ?_;exact fe (by simp only[seval];simp[bz,Wk.refl]) rfl
  refine NE oh.ah rfl ?_;refine wp_skip ?_;refine afq (λhs:List (List Int)=>hs.Perm W.aL) (λhs=>⟨ji Hs,Hs++(dp x deep c++(hO Hs (gp D hs W)++[setH W.aL,.cells (W.l (Hs.length+7)) 88]))⟩) oh.ah ?_ λhs E7 V7 a7 KN ov JP=> ?_
  ·unfold ji dp hO;refine ak ?_;simp only[seval,EU];rw[SY (i:=28) (by omega)];refine aK ((ahw (fp:=Hs.length+6) (mp:=Hs.length+5) (mg:=Hs.length+7) h.kn xn (by omega) (by omega) (by rw[aX];rfl) (by rw[aX];rfl) (by rw[aX];rfl) QS ?_));intro hs hp;rw[ec,ec];(try simp only[seval]);exact⟨hs,hp,fe (by simp only[seval];simp[bz,Wk.refl]) rfl⟩
  have B6:=oh.step ov JP;have eY:=jm.cut (T':=ji Hs) B6 zb (by
   unfold ji hO;simp only[Xg,S4,false_imp_iff,implies_true,and_true,look,ZC,if_false,if_true,Tn,exists_eq_left',Wk.refl,true_and,aaO,Ui,UQ];omega) (alZ bU)
  have jB:nU x deep (js++[j]) (gp D hs W):=by
   rw[hW]at KN⊢;exact h.aao.snoc KN
  refine hQ j (gp D hs W) _ V7 a7 io ⟨by rw[S0];exact eY,?_,jB,aan h.kn xn KN,?_,?_⟩
  ·rw[ov.role,Kt.role];exact Dd
  ·rw[U5];exact⟨h.nodup,by simp,λa ha b hb=>by rw[S9.1 hb];exactλe=>io (e▸ha)⟩
  ·intro k hk;rcases SS.1 hk with h'|h'
   ·exact h.lt k h'
   ·rw[S9.1 h'];exact oW
 ·
  have fD:=aql hS;let V4:View:={V3 with role:=.plain};have sB:Conc (E3.frame E3.fr) V4 (Hs++(dp x deep c++(hO Hs D++[]))):=
   dO.ah.bu.yf (V':=V4) _ rfl (λ_ _ _ _ _ _ h=>h) (λg hg=>by cases hg) (λg hg=>by cases hg) (λhm=>by rw[dO.main]at hm;cases hm) dO.ah.bu.fr
  have bk:ap E3 (.aJ [.agg jj,bv false]) (.tuple #[.agg NQ.toArray,.bool false]):=by
   refine .aJ rfl λq a e=> ?_
   match q,e with
   |0,e=>cases e;exact agD NQ
   |1,e=>cases e;exact .val _
  have qZ:At E3 V4 ⟨(27,.aJ [.agg jj,bv false])::ji Hs,Hs++(dp x deep c++(hO Hs D++[]))⟩ (a3.put (some 27) (.tuple #[.agg NQ.toArray,.bool false])) 35:=⟨sB,dO.ah.tok.put (by rw[dO.ah.size];omega) bk,(d_ a3 (some 27) _).trans dO.ah.size⟩;have ma:=dO.Hc (V2:=V4) (Env.Le.refl E3) (put_defers a3 (some 27) _) rfl qZ;have oy:jj.length=28:=rfl;have b8:=Kn.len h.kn (Hs.length+5);refine NI ⟨(10,bv false)::ji Hs,Hs++(dp x deep c++(hO Hs D++[.cells jj 88]))⟩ rfl (by kernel_rfl) qZ ?_ λE5 V5 a5 gk j8=> ?_
  ·unfold ji dp hO;(try simp only[seval,oy]);exact⟨λa ha=>by simp only[jj,SL,SS,Xv]at ha;rcases ha with rfl|rfl|⟨_,rfl⟩|⟨_,rfl⟩<;>rfl,fe (by simp only[seval];simp[bz,Wk.refl]) rfl⟩
  have cz:=ma.step gk j8;refine wp_seq (wp_seq ?_);refine cz.to ((31,bv true)::ji Hs) (hO Hs D++[.cells jj 88]) ?_ λE6 V6 a6 Kt oh=> ?_
  ·unfold ji dp hO;refine aj ?_;exact fe (by simp only[seval];simp[bz,Wk.refl]) rfl
  refine NE oh.ah rfl ?_;refine wp_seq ?_;refine yI ⟨[(4,.op (Hs.length+2) 0)],Hs++([.part 6 x.l 76,.part 1 [iv deep] 3,.cells (D.l (Hs.length+5)) 88,.part 1 [.val (.chan (some c))] 139,.gone,setH D.aL]++[.cells (D.l (Hs.length+5)) 88,.cells jj 88])⟩ oh.ah ?_ λE7 V7 a7 ov JP=> ?_
  ·unfold ji dp hO;refine ak ?_;simp only[seval,b8,oy];rw[SY (i:=28) (l:=D.l (Hs.length+5)) (by omega)];exact⟨b8,by omega,uH _ _,fe (by simp only[seval];simp[bz,Wk.refl]) (by rw[b8,TS (by rw[oy];exact SR _),S0])⟩
  refine wp_ret ?_;exact ET E7 V7 a7 _ JP (oh.lo.trans ov.le.lo) (ov.defers.trans oh.defers) (ov.deaf.trans oh.deaf) (ov.role.trans (Kt.role.trans gk.role)) (λb y e=>by rw[ov.le.fr];exact(oh.fr b y e).1) fD
end
open Go.Conc Go.Proofs Go.Gg.Tk
theorem apo{P:SJ}{rs:List UL}{fn:YC}{nt:Nat}{k kp:AV->List aa->Prop}{E E':Env}{V V':View}{H L G:List aa}{T:List (Nat×AV)}{a':Act}{av:AV}(hr:fn.results=rs.toArray)(ah:At E' V' ⟨T,H.map strip++(L++G)⟩ a' nt)(oX:E.Lo E')(hc:Conc E V H)(ce:V'.role=V.role)(eZ:V'.deaf=V.deaf)(hf:∀b y,E.fr b=some y->E'.fr b=some y)
  (gn:gR P ⟨T,H.map strip++(L++G)⟩ rs=some [av]) (hL:L.map strip=L) (az:bP (H.map strip++L)) (hlt:Lt (H.length+L.length) av) (hk:k av (H++L)):∃v,aP P V' (results fn a'.tmps) (λx aS=>x=v/\aS=V') (λ_ _=>False)/\gK E V k kp (.ret v) V':=by
 obtain⟨vs,hl,lQ,xJ⟩:=GX ah rs [av] gn;obtain⟨v,rfl⟩:∃v,vs=[v]:=List.length_eq_one_iff.1 hl;have bk:ap E' av v:=lQ 0 av rfl;have qb:aP P V' (results fn a'.tmps) (λx aS=>x=v/\aS=V') (λ_ _=>False):=by
  unfold results;rw[hr,XX];refine aA ?_;refine aA (xJ ?_);refine aq (aq ⟨?_,rfl⟩);simp
 have JX:=ah.bu;dsimp only at JX;rw[<- SD]at JX;have eY:=JX.trim (H:=H.map strip++L) (G:=G) az;have hlen:(H.map strip++L).length=H.length+L.length:=by simp
 rw[hlen]at eY;have ur:(H++L).map strip=H.map strip++L:=by rw[TF,hL]
 rw[<- ur]at eY;refine⟨v,qb,av,((({E' with n:=H.length+L.length}:Env).fq E.main).frame E.fr),H++L,?_,ce,eZ,?_,eY.apf E.main E.fr (λk e=> ?_) (λe=>by rw[ce,eZ];exact hc.top e) hf,hk⟩
 ·refine Env.Lo.le (E':={E' with n:=H.length+L.length}) ⟨oX.I,?_,oX.blk,oX.fA,oX.room⟩;show E.n<=H.length+L.length;rw[hc.n];omega
 ·exact((bk.trim hlt).fq E.main).frame E.fr
 ·by_cases Ci:k<H.length
  ·rw[SX Ci]at e;exact hc.obj k _ e
  ·rw[Th (by omega)]at e;have h2:(L.map strip)[k-H.length]?=some .gone:=(by rw[To,e];rfl);rw[hL,e]at h2;cases h2
section
variable {x:ai}{deep:Int}{Hs:List aa}{E:Env}{c Wg p:Nat}{rv dv fv:SP}{T:List (Nat×AV)}{E1:Env}{V1:View}{a1:Act}
theorem al2(hx:x.Ok)(hA:wS x)(hp:x.am=p)(zb:E.n<=Hs.length)(bU:bP Hs)(h:vc x deep Hs E c Wg rv dv fv 0 [(6,.val (pW Wg 0)),(5,.op (Hs.length+3) 0),(4,.op (Hs.length+2) 0),(3,.op (Hs.length+1) 0),(2,.op Hs.length 0)] [] E1 V1 a1){Q:Ex->Act->View->Prop}
  (hQ:∀js D E2 V2 a2 G,js.Perm (SZ (p+1))->nU x deep js D->bI D->At E2 V2 ⟨[(4,.op (Hs.length+2) 0)],Hs++([.part 6 x.l 76,.part 1 [iv deep] 3,.cells (D.l (Hs.length+5)) 88,.part 1 [.val (.chan (some c))] 139,.gone,setH D.aL]++G)⟩ a2 35->E.Lo E2->a2.defers=[]->V2.deaf=0->V2.role=.plain->(∀b y,E.fr b=some y->E2.fr b=some y)->Q .ret a2 V2):WP true SC none mo Q a1 V1:=by
 have hp3:p<=3:=by have:=hx.am;omega
 have akI:bP (Hs++(dp x deep c++[])):=aav bU (by simp);refine wp_seq (x:=cf mo) (wp_seq (x:=cf (cf mo)) ?_);refine h.ok.to (ju Hs Wg ((p+1:Nat):Int) 0) [] ?_ λE2 V2 a2 b_ cT=> ?_
 ·show aW true SC none 35 (cf (cf mo)) _ _;unfold ju dp;have bS:x.l=[iv x.first,iv x.hours,iv x.am,dY x.seen,bp x.pieces,bp x.aB]:=rfl;have hw:SF.wrap (x.am+1)=((p+1:Nat):Int):=by rw[hp,bG _ (by omega)];rfl
  refine ak ?_;simp only[seval,bS,hw];exact fe (by simp only[seval];simp[bz,Wk.refl]) rfl
 have h2:vc x deep Hs E c Wg rv dv fv 0 (ju Hs Wg ((p+1:Nat):Int) 0) [] E2 V2 a2:=h.step b_ cT;refine wp_block (id:=0) (c:=.loop (ci (ci (cs (cf mo))))) ?_;refine wp_loop (λm a' V'=>∃E' i,m=p+1-i/\i<=p+1/\vc x deep Hs E c Wg rv dv fv i (ju Hs Wg ((p+1:Nat):Int) i) [] E' V' a') (p+1) ⟨E2,0,rfl,by omega,h2⟩ λm a3 V3 hI=> ?_;obtain⟨E3,i,rfl,hi,h3⟩:=hI;refine wp_seq (x:=cf (ci (ci (cs (cf mo))))) (y:=cs (ci (ci (cs (cf mo))))) ?_;refine h3.ok.to ((17,bv (decide ((i:Int)<((p+1:Nat):Int))))::ju Hs Wg ((p+1:Nat):Int) i) [] ?_ λE4 V4 a4 rh ma=> ?_
 ·show aW true SC none 35 (cf (ci (ci (cs (cf mo))))) _ _;unfold ju dp;refine aj ?_;exact fe (by simp only[seval];simp[bz,Wk.refl]) rfl
 have qU:=h3.step rh ma;refine wp_seq (x:=.cond (.tmp 17) .skip (.exit 0)) (y:=cs (cs (ci (ci (cs (cf mo)))))) (NE ma.ah rfl ?_);by_cases Rt:i<p+1
 ·rw[show decide ((i:Int)<((p+1:Nat):Int))=true from decide_eq_true (by omega)];refine wp_skip ?_;have ajF:jm x deep Hs E c Wg rv dv fv (ju Hs Wg ((p+1:Nat):Int) i) [] E4 V4 a4:=ma.Hc (Env.Le.refl E4) rfl rfl (ma.ah.sub (fe (by unfold ju dp;simp only[seval];simp[bz,Wk.refl]) rfl));exact al0 hx hA zb akI ⟨ajF,qU.role,qU.EG,qU.BG⟩ (by omega) rfl λE5 V5 a5 h5=>⟨p+1-(i+1),by omega,E5,i+1,rfl,by omega,h5⟩
 have dw:i=p+1:=by omega
 subst dw;rw[show decide ((((p+1:Nat):Int))<((p+1:Nat):Int))=false by simp];refine wp_exit ?_;refine wp_seq (x:=cf (cs mo)) (y:=cs (cs mo)) ?_;refine Hq (K:=λs'=>look s'.T 22=some (.fn (.func 100) [] [.val (pW Wg 0),.op (Hs.length+3) 0])/\s'.Sub ⟨[(5,.op (Hs.length+3) 0),(4,.op (Hs.length+2) 0)],Hs++(dp x deep c++[])⟩) 1 1 rfl (by kernel_rfl) ma.ah ?_ λE5 V5 a5 s5 gk j8 hK=> ?_
 ·unfold ju dp;(try simp only[seval,T8,UA,Uh,TP]);exact fe (by simp only[seval];simp[bz,Wk.refl]) rfl
 obtain⟨LR,lO⟩:=hK;have cz:=ma.step gk (j8.sub lO);have Dd:V5.role=.fork c Wg (oE x deep (p+1)):=gk.role.trans qU.role;have vE:E5.fr c=some sA:=by rw[gk.le.fr];exact qU.EG
 have BH:E5.fr Wg=some (wgBlock SC (((p+1:Nat):Int)* 4294967296) 0):=by rw[gk.le.fr];exact qU.BG
 obtain⟨c1,c2,c3⟩:=cz.ah.bu.fr c _ vE;obtain⟨v1,v2,v3⟩:=cz.ah.bu.fr Wg _ BH;have e22:a5.eval (.tmp 22)=.func (.func 100) #[] #[pW Wg 0,fv]:=by
  obtain⟨fa,ca,q1,q2,q3⟩:=Pc (j8.tok 22 _ LR).2;rw[Eu q2]at q1;refine q1.trans ?_;have fP:ca.size=2:=q3.1;have k0:=t_ (q3.2 0 _ rfl);have k1:=Bv (q3.2 1 _ rfl);rw[<- cz.ef]at k1;congr 1;refine Array.ext fP λj h1 h2=> ?_;have hj:j=0\/j=1:=by omega
  rw[SI,SK (by omega)]at k0 k1;rcases hj with rfl|rfl
  ·exact k0
  ·exact k1
 have hfc:V5.ab (E5.blk (Hs.length+3)) 0=some (.chan (some c)):=by
  have bx:=cz.df;rw[cz.ef]at bx;generalize hp:(Value.pointer (some ⟨E5.blk (Hs.length+3),0,none⟩))=pv at bx;cases bx with
  |rp b o f h1 h2=>
   cases hp;have:=h1 0 (by simp);rw[cz.ah.bu.I]at this;rw[UK]at this;rw[this,t_ (h2 0 _ rfl)]
 refine NH rfl rfl ?_;refine⟨rfl,.tmp 22,100,#[],_,rfl,e22,cz.deaf,.inr ⟨c,Wg,_,Dd,cz.ne,c1,?_,c2,v2,?_,?_⟩⟩
 ·rw[v1,Na]
 ·have:=agm Wg (E5.blk (Hs.length+3)) c (Im:=V5.ab) hfc;rw[cz.ef];simpa[pW]using this
 let V6:View:={V5 with own:=λb=>if b=c\/b=Wg then none else V5.own b,role:=.recv c Wg (oE x deep (p+1))};let f6:Nat->Option Obj:=λb=>if b=c\/b=Wg then none else E5.fr b;have Ix:Conc (E5.frame f6) V6 (Hs++(dp x deep c++[])):=by
  refine cz.ah.bu.yf (V':=V6) _ rfl (λb z k w hk kB hz=> ?_) (λg hg=>by cases hg) (λg hg=>by cases hg) (λhm=>by rw[cz.main]at hm;cases hm) (λb y hb=> ?_)
  ·have n1:b≠c:=cz.ah.bu.C6 vE hk kB;have n2:b≠Wg:=cz.ah.bu.C6 BH hk kB;show (if b=c\/b=Wg then none else V5.own b)=some z;rw[if_neg (λe=>e.elim n1 n2)];exact hz
  ·by_cases zl:b=c\/b=Wg
   ·simp only[f6,if_pos zl]at hb;cases hb
   ·simp only[f6,if_neg zl]at hb;obtain⟨q1,q2,q3⟩:=cz.ah.bu.fr b y hb;refine⟨?_,q2,q3⟩;show (if b=c\/b=Wg then none else V5.own b)=some y;rw[if_neg zl];exact q1
 have oh:jm x deep Hs E c Wg rv dv fv [(5,.op (Hs.length+3) 0),(4,.op (Hs.length+2) 0)] [] (E5.frame f6) V6 (a5.put none undef):=by
  refine⟨⟨Ix,cz.ah.tok.frame _,cz.ah.size⟩,cz.lo.trans (Env.Gk E5 f6),cz.main,cz.defers,cz.deaf,cz.er,cz.ed,cz.ef,cz.dr.frame f6,cz.dd.frame f6,cz.df.frame f6,λb y e=> ?_,cz.ne⟩;obtain⟨q1,q2,q3⟩:=cz.fr b y e;refine⟨?_,q2,q3⟩;show (if b=c\/b=Wg then none else E5.fr b)=some y;rw[if_neg (λe=>e.elim q2 q3)];exact q1
 show WP true SC none (.seq (cf (cs (cs mo))) (cs (cs (cs mo)))) Q (a5.put none undef) V6;refine wp_seq ?_;refine oh.to (ji Hs) (hO Hs Kn.zero) ?_ λE7 V7 a7 ov B6=> ?_
 ·show aW true SC none 35 (cf (cs (cs mo))) _ _;unfold ji dp hO;refine aj ?_;exact fe (by simp only[seval];simp[bz,Wk.refl]) rfl
 refine wp_block (id:=2) (c:=.loop aau) ?_;have cM:D4 x deep (p+1) Hs E c Wg rv dv fv [] Kn.zero (ji Hs) [] E7 V7 a7:=⟨by rw[S0];exact B6,by rw[ov.role,aqn],.nil,CU,WO,λj hj=>by cases hj⟩;refine wp_loop (λm a' V'=>∃E' js D,m=p+1-js.length/\D4 x deep (p+1) Hs E c Wg rv dv fv js D (ji Hs) [] E' V' a') _ ⟨E7,[],Kn.zero,rfl,cM⟩ λm a8 V8 hI=> ?_;obtain⟨E8,js,D,rfl,h8⟩:=hI;have hlen:∀js:List Nat,js.Nodup->(∀j∈js,j<p+1)->js.length<=p+1:=λjs hn hl=>by
  have:=hn.length_le_of_subset (l₂:=SZ (p+1)) λj hj=>by simpa using hl j hj
  simpa using this
 refine al1 hx hA (by omega) zb bU h8 (λj D' E9 V9 a9 hj h9=> ?_) λE9 V9 a9 G ajy L8 IJ Iy MY xf fD=> ?_
 ·have h1:=hlen _ h9.nodup h9.lt;simp only[SO,TY]at h1;exact⟨p+1-(js++[j]).length,by simp;omega,E9,js++[j],D',rfl,h9⟩
 ·have KP:js.Perm (SZ (p+1)):=by
   refine(List.perm_ext_iff_of_nodup h8.nodup XU).2 λk=> ?_;rw[Tu];exact⟨h8.lt k,fD k⟩
  exact hQ js D E9 V9 a9 G KP h8.aao h8.kn ajy L8 IJ Iy MY xf
end
theorem aid{x:ai}{deep:Int}{p:Nat}{H:List aa}{k kp:AV->List aa->Prop}(hx:x.Ok)(hA:wS x)(hp:x.am=p)(hm:H[0]?=some .main)(hk:∀js D L,js.Perm (SZ (p+1))->nU x deep js D->bI D->L.length=5->k (.agg (D.l (H.length+5))) (H++(L++[setH D.aL]))):bf true SC 77 H [x.av,iv deep] k kp:=by
 intro E V vs hc hd;have hEm:E.main=true:=hc.obj 0 _ hm;obtain⟨jc,ul⟩:=hc.top hEm;have hn:E.n=H.length:=hc.n;refine OM (by simp) F.f77 rfl ?_;have sL:At (E.fq false) V ⟨[(0,x.av),(1,iv deep)],H.map strip⟩ {tmps:=vs++TK (XK.ntmps-vs.size) undef,defers:=[]} 35:=by
  have:=Bi (nt:=35) hc hd (by simp);exact⟨hc.agz,this.tok.fq false,this.size⟩
 have hlen:(H.map strip).length=H.length:=Tp _;have KI:bP (H.map strip):=sL.bu.az
 suffices oY:∀Hs,H.map strip=Hs->WP true SC none uI (Ends SC XK (gK E V k kp)) {tmps:=vs++TK (XK.ntmps-vs.size) undef,defers:=[]} V from oY _ rfl
 intro Hs bU;rw[bU]at sL hlen KI;have QZ:({tmps:=vs++TK (XK.ntmps-vs.size) undef,defers:=[]}:Act).defers=[]:=rfl;generalize({tmps:=vs++TK (XK.ntmps-vs.size) undef,defers:=[]}:Act)=a0 at sL QZ;have bS:x.l=[iv x.first,iv x.hours,iv x.am,dY x.seen,bp x.pieces,bp x.aB]:=rfl;refine wp_seq (x:=cf uI) (y:=cs uI) ?_;refine yI ⟨[(4,.op (Hs.length+2) 0),(3,.op (Hs.length+1) 0),(2,.op Hs.length 0)],Hs++[.cells x.l 76,.cells [iv deep] 3,.cells jj 88]⟩ sL ?_ λE2 V2 a2 b_ uh=> ?_
 ·show aW true SC none 35 (cf uI) _ _;simp only[ai.av];refine aj ?_;exact fe (by simp only[seval];simp[bz,Wk.refl]) rfl
 obtain⟨ti,v9⟩:∃i,SC.info? 88=some i:=Option.isSome_iff_exists.1 (by kernel_rfl);refine wp_seq (x:=cf (cs uI)) (y:=cs (cs uI)) (adx rfl rfl (anO rfl (d:=.both) (el:=88) (by kernel_rfl) v9 λc vQ=> ?_));let f3:Nat->Option Obj:=λb=>if b=c then some sA else E2.fr b;have pO:At (E2.frame f3) (V2.upd c sA) ⟨[(11,.val (.chan (some c))),(4,.op (Hs.length+2) 0),(3,.op (Hs.length+1) 0),(2,.op Hs.length 0)],Hs++[.cells x.l 76,.cells [iv deep] 3,.cells jj 88]⟩ (a2.put (some 11) (.chan (some c))) 35:=
  ⟨uh.bu.ai0 vQ sA,(uh.tok.frame _).put (by rw[uh.size];omega) (.val _),(d_ a2 (some 11) _).trans uh.size⟩
 refine NI ⟨[(5,.op (Hs.length+3) 0),(4,.op (Hs.length+2) 0),(3,.op (Hs.length+1) 0),(2,.op Hs.length 0)],Hs++[.cells x.l 76,.cells [iv deep] 3,.cells jj 88,.cells [.val (.chan (some c))] 139]⟩ rfl (by kernel_rfl) pO ?_ λE4 V4 a4 rh qZ=> ?_
 ·(try simp only[seval,an4,ase,ama]);exact fe (by simp only[seval];simp[bz,Wk.refl]) rfl
 refine wp_seq (x:=cf (cs (cs uI))) (y:=mo) ?_;refine yI ⟨[(6,.op (Hs.length+4) 0),(5,.op (Hs.length+3) 0),(4,.op (Hs.length+2) 0),(3,.op (Hs.length+1) 0),(2,.op Hs.length 0)],Hs++[.cells x.l 76,.cells [iv deep] 3,.cells jj 88,.cells [.val (.chan (some c))] 139,.cells [.val (.int .u64 0),.val (.int .u32 0)] 147]⟩ qZ ?_ λE5 V5 a5 gk j8=> ?_
 ·show aW true SC none 35 (cf (cs (cs uI))) _ _;refine aj ?_;exact fe (by simp only[seval];simp[bz,Wk.refl]) rfl
 obtain⟨wcs,Ld,hwo,xU,B9⟩:=j8.bu.ai1 (id:=Hs.length+4) (aX _ _ 4);have alv:=Pg (l:=[.int .u64 0,.int .u32 0]) Ld;subst alv;rw[ec]at B9;simp only[UC,TZ]at B9;have Pz:=j8.arP (t:=6) (id:=Hs.length+4) (off:=0) rfl;have Qo:E5.fr=f3:=gk.le.fr.trans rh.le.fr;have vE:E5.fr c=some sA:=by rw[Qo];simp[f3]
 have aE:c≠E5.blk (Hs.length+4):=λe=>j8.bu.C6 vE (aX Hs _ 4) rfl e.symm;have Qp:∀b y,E.fr b=some y->E5.fr b=some y/\b≠c/\b≠E5.blk (Hs.length+4):=λb y hb=>by
  have h2:E2.fr b=some y:=by rw[b_.le.fr];exact hb
  have zl:b≠c:=λe=>by subst e;have:=(uh.bu.fr b y h2).1;rw[vQ.1]at this;cases this
  have h5:E5.fr b=some y:=by rw[Qo];simp[f3,zl,h2]
  exact⟨h5,zl,λe=>j8.bu.C6 h5 (aX Hs _ 4) rfl e.symm⟩
 generalize ze:E5.blk (Hs.length+4)=Wg at hwo xU B9 Pz aE Qp;let f6:Nat->Option Obj:=λb'=>if b'=Wg then some (wgBlock SC 0 0)else E5.fr b';have Rb:Conc (E5.frame f6) V5 (Hs++[.cells x.l 76,.cells [iv deep] 3,.cells jj 88,.cells [.val (.chan (some c))] 139,.gone]):=by
  have:(λb'=>if b'=Wg then some (Obj.cells #[.int .u64 0,.int .u32 0] 147 (0,0))else E5.fr b')=f6:=by
   funext b';simp only[f6,wgBlock,wgT]
  rw[<- this];exact B9
 have B0:At (E5.frame f6) V5 ⟨[(6,.val (pW Wg 0)),(5,.op (Hs.length+3) 0),(4,.op (Hs.length+2) 0),(3,.op (Hs.length+1) 0),(2,.op Hs.length 0)],Hs++[.cells x.l 76,.cells [iv deep] 3,.cells jj 88,.cells [.val (.chan (some c))] 139,.gone]⟩ a5 35:=by
  refine⟨Rb,λt av e=> ?_,j8.size⟩;by_cases ht:t=6
  ·subst ht;cases e;refine⟨by rw[j8.size];omega,?_⟩;have:a5.tmps.getD 6 undef=pW Wg 0:=Pz;rw[this];exact .val _
  ·refine(j8.tok.frame f6) t av ?_;simp only[look]at e⊢;rw[if_neg (Ne.symm ht)]at e⊢;exact e
 clear B9 Rb;have lo6:E.Lo (E5.frame f6):=((((E.amJ false).trans b_.le.lo).trans (Env.Gk E2 f3)).trans (rh.le.lo.trans gk.le.lo)).trans (Env.Gk E5 f6);have Mc:(E5.frame f6).main=false:=gk.le.main.trans (rh.le.main.trans b_.le.main);have agw:a5.defers=[]:=gk.defers.trans (rh.defers.trans ((put_defers a2 _ _).trans (b_.defers.trans QZ)));have ro6:V5.role=.plain:=gk.role.trans (rh.role.trans (b_.role.trans jc));have de6:V5.deaf=0:=gk.deaf.trans (rh.deaf.trans (b_.deaf.trans ul));have Jn:(E5.frame f6).fr c=some sA:=by show f6 c=_;simp only[f6,if_neg aE];exact vE
 have Jo:(E5.frame f6).fr Wg=some (wgBlock SC 0 0):=by show f6 Wg=_;simp[f6]
 have Qq:∀b y,E.fr b=some y->(E5.frame f6).fr b=some y/\b≠c/\b≠Wg:=λb y hb=>by
  obtain⟨q1,q2,q3⟩:=Qp b y hb;refine⟨?_,q2,q3⟩;show f6 b=_;simp only[f6,if_neg q3];exact q1
 generalize E5.frame f6=E6 at B0 lo6 Mc Jn Jo Qq;obtain⟨V7,g7,o7,r7,d7,wh,Ep,O_⟩:=B0.bu.GU (id:=Hs.length) (aX _ _ 0) 6 (by simp[bS]);rw[show Hs.length=Hs.length+0 from rfl,ec]at Ep;simp only[TZ]at Ep;have ac5:=B0.tok.mono wh;generalize hE7:({E6 with I:=V7.ab}:Env)=E7 at wh Ep O_ ac5;obtain⟨V8,g8,o8,r8,d8,uJ,Er,Pa⟩:=Ep.GU (id:=Hs.length+1) (aX _ _ 1) 1 (by simp);rw[ec]at Er;simp only[UC,TZ]at Er;have ac6:=ac5.mono uJ;generalize hE8:({E7 with I:=V8.ab}:Env)=E8 at uJ Er Pa ac6;obtain⟨V9,g9,o9,r9,d9,uK,w7,IB⟩:=Er.GU (id:=Hs.length+3) (aX _ _ 3) 1 (by simp);rw[ec]at w7;simp only[UC,TZ]at w7;have ac7:=ac6.mono uK;generalize hE9:({E8 with I:=V9.ab}:Env)=E9 at uK w7 IB ac7;refine WP.ghost g7 (WP.ghost g8 (WP.ghost g9 ?_));have L8:E.Lo E9:=lo6.trans ((wh.trans uJ).trans uK).lo;have MY:V9.role=.plain:=r9.trans (r8.trans (r7.trans ro6));have Iy:V9.deaf=0:=d9.trans (d8.trans (d7.trans de6));have xf:E9.fr=E6.fr:=uK.fr.trans (uJ.fr.trans wh.fr);have n6:E6.n=Hs.length+5:=by rw[B0.bu.n];simp
 have b7:∀k,k<Hs.length+5->E9.blk k=E6.blk k/\E9.blk k=E7.blk k/\E9.blk k=E8.blk k:=λk hk=>by
  have n7:=wh.n;have n8:=uJ.n;have q7:=wh.blk k (by omega);have q8:=uJ.blk k (by omega);have q9:=uK.blk k (by omega);exact⟨by rw[q9,q8,q7],by rw[q9,q8],q9⟩
 obtain⟨c1,c2,c3⟩:=w7.fr c sA (by rw[xf];exact Jn);obtain⟨v1,v2,v3⟩:=w7.fr Wg _ (by rw[xf];exact Jo);refine ar3 (c:=c) (Wg:=Wg) rfl MY aE c1 (by rw[v1];simp) v2 ?_;let HV:View:={V9 with role:=.fork c Wg []};have agn:Conc (E9.frame E9.fr) HV (Hs++(dp x deep c++[])):=by
  refine w7.yf (V':=HV) _ rfl (λ_ _ _ _ _ _ h=>h) (λg hg=> ?_) (λg hg=> ?_) (λhm=>by rw[uK.main,uJ.main,wh.main,Mc]at hm;cases hm) w7.fr
  ·cases hg;exact⟨by show V9.own Wg≠none;rw[v1];simp,v2,v3⟩
  ·cases hg;exact⟨by show V9.own c≠none;rw[c1];simp,c2,c3⟩
 have dr9:ap E9 (.rp x.l) (.pointer (some ⟨E9.blk Hs.length,0,none⟩)):=by
  have h7:=(O_.mono uJ).mono uK;rw[<- (b7 Hs.length (by omega)).1]at h7;rwa [SY (by simp[bS])]at h7
 have dd9:ap E9 (.rp [iv deep]) (.pointer (some ⟨E9.blk (Hs.length+1),0,none⟩)):=by
  have h8:=Pa.mono uK;rw[<- (b7 (Hs.length+1) (by omega)).2.1]at h8;exact h8
 have IJ:ap E9 (.rp [.val (.chan (some c))]) (.pointer (some ⟨E9.blk (Hs.length+3),0,none⟩)):=by
  rw[<- (b7 (Hs.length+3) (by omega)).2.2]at IB;exact IB
 have KE:jm x deep Hs E c Wg (.pointer (some ⟨E9.blk Hs.length,0,none⟩)) (.pointer (some ⟨E9.blk (Hs.length+1),0,none⟩)) (.pointer (some ⟨E9.blk (Hs.length+3),0,none⟩)) [(6,.val (pW Wg 0)),(5,.op (Hs.length+3) 0),(4,.op (Hs.length+2) 0),(3,.op (Hs.length+1) 0),(2,.op Hs.length 0)] [] E9 HV a5:=
  ⟨⟨agn,ac7,B0.size⟩,L8,uK.main.trans (uJ.main.trans (wh.main.trans Mc)),agw,Iy,rfl,rfl,rfl,dr9,dd9,IJ,λb y hb=>by rw[xf];exact Qq b y hb,aE⟩
 refine al2 hx hA hp (by omega) KI ⟨KE,rfl,by rw[xf];exact Jn,by rw[xf];exact Jo⟩ λjs D E11 V11 a11 G KP jB bY Q2 amI agv ags apr aiZ=> ?_;subst bU;have b8:=Kn.len bY (H.length+5);let L5:List aa:=[.part 6 x.l 76,.part 1 [iv deep] 3,.cells (D.l (H.length+5)) 88,.part 1 [.val (.chan (some c))] 139,.gone];rw[hlen]at Q2;refine⟨agv,apo (P:=SC) (rs:=[.cell 4 88]) (H:=H) (L:=L5++[setH D.aL]) (G:=G) (T:=[(4,.op (H.length+2) 0)]) (av:=.agg (D.l (H.length+5))) rfl Q2 amI hc (apr.trans jc.symm) (ags.trans ul.symm) aiZ ?_ rfl ?_ ?_ (hk js D L5 KP jB bY rfl)⟩
 ·have hg:(H.map strip++(L5++[setH D.aL]++G))[H.length+2]?=some (.cells (D.l (H.length+5)) 88):=by
   have:=aX (H.map strip) (L5++[setH D.aL]++G) 2;rw[hlen]at this;exact this
  have aF:Uq 28 (D.l (H.length+5))=D.l (H.length+5):=SY (by omega);generalize hLG:H.map strip++(L5++[setH D.aL]++G)=LG at hg;try simp only[seval,gR,uT,hg,b8,aF,aa.cellsOf]
 ·have hl:H.length=(H.map strip).length:=hlen.symm;intro y hy;have akn:(H.map strip++(L5++[setH D.aL])).length=H.length+6:=by simp[L5]
  rw[akn];rcases SS.1 hy with h|h
  ·exact(KI y h).mono (by omega)
  ·simp only[L5,SL,SS,S4,or_false]at h;rcases h with(rfl|rfl|rfl|rfl|rfl)|rfl
   ·exactλa ha=>Gp x _ a ha
   ·intro a ha;simp at ha;subst ha;exact .val _
   ·exact xX (by omega)
   ·intro a ha;simp at ha;subst ha;exact .val _
   ·trivial
   ·trivial
 ·refine .agg λa ha=> ?_;exact xX (by simp[L5]) a ha
namespace Tk
theorem Ry{x:ai}{bh:Nat}(h0:0<=x.first)(h90:x.first<=90)(hp:0<=x.am/\x.am<=3):∀(d:Nat)(pre:List Int),pre.length+d<=4->pre.head?=some x.first->(∀a∈pre,x.first<=a/\a<=x.first+3* (pre.length-1:Nat))->∀h∈mN x bh d pre,h.length=4/\h.head?=some x.first/\∀a∈h,x.first<=a/\a<=x.first+9
 |0,pre,hl,hh,ha,h,hm=>by
  unfold mN at hm;split at hm
  ·rw[S9]at hm;subst hm;have aE:pre≠[]:=λe=>(by rw[e]at hh;cases hh);have cN:0<pre.length:=Vs.2 aE;have up:pre.getLastD 0∈pre:=by
    rw[Vh,XM aE];exact Zu aE
   refine⟨by simp[cq];omega,by rw[cq,WR,hh];rfl,λa hm=> ?_⟩;have Ky:a∈pre:=by
    rcases SS.1 hm with h|h
    ·exact h
    ·rw[(Xv.1 h).2];exact up
   have:=ha a Ky;omega
  ·cases hm
 |d+1,pre,hl,hh,ha,h,hm=>by
  unfold mN at hm;split at hm
  ·obtain⟨n,hn,hm⟩:=S5.1 hm;have kD:n<x.am.toNat+1:=(by simpa using hn);split at hm
   ·cases hm
   ·have aE:pre≠[]:=λe=>(by rw[e]at hh;cases hh);have cN:0<pre.length:=Vs.2 aE;have up:pre.getLastD 0∈pre:=by
     rw[Vh,XM aE];exact Zu aE
    refine Ry h0 h90 hp d _ (by simp;omega) (by rw[WR,hh];rfl) (λa Ky=> ?_) h hm;rw[SO,TY];rcases SS.1 Ky with h'|h'
    ·have:=ha a h';omega
    ·rw[S9]at h';subst h';have:=ha _ up;omega
  ·cases hm
theorem Ru{x:ai}{bh:Nat}(hx:x.Ok){h:List Int}(hm:h∈jA x bh):mB h:=by
 have hf:=hx.first;have hh:=hx.hours;have hp:=hx.am;obtain⟨h1,h2,h3⟩:=Ry (bh:=bh) hf.1 hf.2 ⟨by omega,hp.2⟩ x.hours.toNat [x.first] (by simp;omega) rfl (λa ha=>by rw[S9]at ha;subst ha;simp) h hm;refine⟨h1,λa ha=>by have:=h3 a ha;omega,λa ha=>by have:=h3 a ha;omega,?_⟩
 match h,h1,h2,h3 with
 |[a,b,c,d],_,h2,h3=>
  have ha:a=x.first:=by simpa using h2
  have:=h3 d (by simp);simp;omega
theorem abk:∀{qs:List Nat}{u:Nat}{t ns:List Nat},ns∈kL qs u t->∃l,ns=t++l/\l.length=qs.length/\∀(i n q:Nat),l[i]?=some n->qs[i]?=some q->n<9/\q.testBit n=true
 |[],u,t,ns,h=>by
  simp only[kL,S9]at h;exact⟨[],by simp[h],rfl,λi n q h1=>by cases h1⟩
 |q::qs,u,t,ns,h=>by
  simp only[kL,S5]at h;obtain⟨n,hn,h⟩:=h;split at h
  ·cases h
  ·rename_i hc;obtain⟨l,h1,h2,h3⟩:=abk h;refine⟨n::l,by rw[h1];simp,by simp[h2],λi m q' h4 h5=> ?_⟩
   match i with
   |0=>
    cases h4;cases h5;refine⟨by simpa using hn,?_⟩;simp at hc;exact hc.2
   |i+1=>exact h3 i m q' h4 h5
theorem abv{k:Nat}{ns:List Nat}:∀{qs:List Nat}{u:Nat}{t os:List Nat},os∈mv k ns qs u t->∃l,os=t++l/\l.length=qs.length/\∀n∈l,n<k
 |[],u,t,os,h=>by
  simp only[mv,S9]at h;exact⟨[],by simp[h],rfl,λn h1=>by cases h1⟩
 |q::qs,u,t,os,h=>by
  simp only[mv,S5]at h;obtain⟨n,hn,h⟩:=h;split at h
  ·cases h
  ·obtain⟨l,h1,h2,h3⟩:=abv h;refine⟨n::l,by rw[h1];simp,by simp[h2],λm hm=> ?_⟩;rcases SL.1 hm with rfl|hm
   ·simpa using hn
   ·exact h3 m hm
theorem Nl:∀{h:List Int}{i:Nat}{n a:Int},h.head?=some a->a<=n->n<h.getLastD 0->0<=ft i h n
 |[],i,n,a,h1,_,_=>by cases h1
 |[b],i,n,a,h1,h2,h3=>by
  simp at h1 h3;omega
 |b::c::l,i,n,a,h1,h2,h3=>by
  have:b=a:=by simpa using h1
  subst this;unfold ft;split
  ·omega
  ·rename_i hc;exact Nl (a:=c) rfl (by omega) (by simpa[Vh]using h3)
theorem arz{x:ai}{h:List Int}{ns os:List Nat}(hx:x.Ok)(hh:mB h)(hn:ns∈fS x h)(ho:os∈ie x h ns):jn x (db h ns os):=by
 obtain⟨l,e1,e2,e3⟩:=abk hn;simp only[UF]at e1;subst e1;obtain⟨m,g1,g2,g3⟩:=abv ho;simp only[UF]at g1;subst g1;rw[Tp]at e2 g2;have h4:=hh.len;have FG:=hx.c9;have o4:=hx.eK;have CE:(db h ns os).take 4=h:=by
  unfold db;rw[SD,Tw (by omega),SY (by omega)]
 have cO:(kM 4 ns).length=4:=Ak (by omega);have hg:∀p,p<ns.length->(db h ns os)[4+p]?=(ns[p]?).map λn:Nat=>(n:Int):=λp hp=>by
  unfold db;rw[SD,Th (by omega),SX (by omega),h4,US];unfold kM;rw[SX (by simpa using hp),To]
 refine⟨by simp[db,h4,cO,Ak (k:=3) (l:=os) (by omega)],by rw[CE];exact hh,λp hp=> ?_,λs hs=> ?_⟩
 ·obtain⟨n,Cs⟩:=bX (xs:=ns) (i:=p) (by omega);obtain⟨y,hy⟩:=bX hp;obtain⟨q1,q2⟩:=e3 p n (bR h y) Cs (by rw[To,hy];rfl);refine⟨n,by rw[hg p (by omega),Cs];rfl,q1,?_⟩;rw[CE];unfold bR at q2;rw[Bm]at q2;simp only[Tc,lF,decide_eq_true_eq]at q2;obtain⟨a,b,c,d,rfl,_⟩:=hh.out;have e0:(db [a,b,c,d] ns os).getD 0 0=a:=rfl;rw[e0];have:=q2.2.1.1;simp at this;exact Nl (a:=a) rfl (by omega) (by simp;omega)
 ·obtain⟨o,KM⟩:=bX (xs:=os) (i:=s) (by omega);refine⟨o,?_,by have:=g3 o (Tf KM);omega⟩;unfold db;rw[Th (by simp[h4,cO]),show (h++kM 4 ns).length=8 by simp[h4,cO],US];unfold kM;rw[SX (by have:=eR KM;simpa using this),To,KM];rfl
end Tk
theorem Du{x:ai}(hx:x.Ok):wS x:=λbh _ h hm=>by
 have hh:=Ru hx hm;refine⟨hh,λns i_ a ha=> ?_⟩;obtain⟨os,h1,rfl⟩:=Td.1 ha;exact arz hx hh i_ h1
open Go.Conc
section
variable {lv:Bool}{P:SJ}{s:AS}{ms:List Nat}{bs:List UX}{nt:Nat}
theorem aiK{f:TO}{fn:YC}{c0 c1 c2:T7}{rs:List UL}{H:List aa}{args:List AV}{k kp:AV->List aa->Prop}(hf:P.funcs[f]?=some fn)(hb:fn.body=some (.seq c0 (.seq c1 c2)))(hr:fn.results=rs.toArray)(hn:fn.ntmps=nt)(cK:args.length<=nt)
  (h:bP H->(∀a∈args,Lt H.length a)->aW lv P none nt c0 ⟨br 0 args,H⟩ λe s0=>e=.normal/\AF lv P nt c1 s0 [] (λe s' ni=>e=.normal/\∃c,ni=[c]/\∀bs,ku lv P nt bs c2 s' [] (yA lv P rs H.length c k kp))):bf lv P f H args k kp:=by
 intro E V vs hc hd;have hlt:∀a∈args,Lt H.length a:=λa ha=>by
  obtain⟨i,hi⟩:=pi ha;rw[<- hc.n];exact(hd.2 i a hi).lt
 have ah:=Bi (nt:=nt) hc hd cK;refine af4 (by simp) hf hb ?_;rw[hn];refine wp_seq (h hc.az hlt E V _ _ ah λae e E0 V0 a0 s0 zC sL he0 hΦ0=> ?_);obtain⟨rfl,xT⟩:=hΦ0;cases e<;>first
  |exact he0.elim
  |skip
 have ajY:a0.defers=[]:=zC.defers;refine wp_seq (xT E0 V0 a0 _ sL (by rw[ajY];trivial) λae e E1 V1 a1 s1 ds1 akk vK dg Ca hΦ1=> ?_);obtain⟨rfl,c,rfl,hw⟩:=hΦ1;have gO:=zC.d.trans akk;cases e<;>first
  |exact Ca.elim
  |skip
 obtain⟨d,iW,bk⟩:∃d,a1.defers=[d]/\yr E1 c d:=by
  match iW:a1.defers,dg with
  |[d],dg=>exact⟨d,rfl,dg.1⟩
  |[],dg=>exact dg.elim
  |_::_::_,dg=>exact dg.2.elim
 refine hw [d] E1 V1 a1 _ vK ⟨by simp[iW],by simp⟩ λae e E' V' a' s' cE hk aR fN he hΦ=> ?_;have hle:E.Le E':=gO.le.trans hk.le;have fin:∀(md:U7)(m:Option AV)(H':List aa),(md matches .run)=false->iC cE s'.H=some H'->NV E' m md->qz lv P c H' m (λH'=>ao (gR P ⟨s'.T,H'⟩ rs) λl=>cw H.length H' (iM l) k) (λH'=>∀pv,m=some pv->cw H.length H' pv kp)->tS lv P fn (gK E V k kp) a'.defers md a'.tmps V':=by
  intro md m H' p8 hg RQ hD;refine ado p8 cE _ H' E' V' _ hg aR.bu fN λV2 r1 r2 cT=> ?_;have ajV:=bk.mono hk.le;refine⟨p8,.inr ⟨?_,?_⟩⟩
  ·obtain⟨f,first,cR,fa,ca,vs,h1,rfl,h3,h4,h5⟩:=bk;exact⟨_,_,rfl⟩
  ·refine(hD E' V2 d md cT ajV RQ).mono (λnx aS hx=> ?_) λ_ _ h=>h;obtain⟨g,args,rfl,BN⟩:=hx;refine⟨g,args,rfl,BN.mono λnM V3 hx=> ?_⟩;obtain⟨E3,H3,q1,q2,q3,q4,q5|q5⟩:=hx
   ·obtain⟨rfl,q5⟩:=q5;exact abS (s':=⟨s'.T,H3⟩) (a':=a') hr ⟨q4,aR.tok.mono q1,aR.size⟩ (hle.trans q1) hc.n (q2.trans (r1.trans (hk.role.trans gO.role))) (q3.trans (r2.trans (hk.deaf.trans gO.deaf))) q5
   ·obtain⟨rfl,ur,q5⟩:=q5;cases m with
    |none=>cases ur
    |some pv=>
     obtain⟨v,rfl,nF⟩:=RQ;obtain⟨b,bQ,tL,t1,t2,t3,t4⟩:=w_ (q5 pv rfl) q4 (nF.mono q1) (hle.trans q1) hc.n;exact⟨b,v,bQ,tL,rfl,t1,q2.trans (r1.trans (hk.role.trans gO.role)),q3.trans (r2.trans (hk.deaf.trans gO.deaf)),t2,t3,t4⟩
 have aiA:yA lv P rs H.length c k kp .ret s' cE->tS lv P fn (gK E V k kp) a'.defers .returning a'.tmps V':=λhΦ=>by
  obtain⟨H',hg,hΦ⟩:=ao.out hΦ;refine fin .returning none H' rfl hg rfl λE2 V2 d2 Me c1 c2 c3=> ?_;refine(hΦ E2 V2 d2 Me c1 c2 c3).mono (λnx aS hx=> ?_) λ_ _ h=>h;obtain⟨g,args,rfl,BN⟩:=hx;refine⟨g,args,rfl,BN.mono λnM V3 hx=> ?_⟩;obtain⟨E3,H3,q1,q2,q3,q4,q5|q5⟩:=hx
  ·exact⟨E3,H3,q1,q2,q3,q4,.inl q5⟩
  ·exact q5.2.2.elim
 cases ae<;>cases e<;>first
  |exact he.elim
  |exact aiA hΦ
  |exact hΦ.elim
  |skip
 rename_i pv ch;obtain⟨v,eX,ajW⟩:∃v,ch=[{v,recovered:=false}]/\ap E' pv v:=he;subst eX;obtain⟨H',hg,hΦ⟩:=ao.out hΦ;refine fin _ (some pv) H' rfl hg ⟨v,rfl,ajW⟩ λE2 V2 d2 Me c1 c2 c3=> ?_;refine(hΦ E2 V2 d2 Me c1 c2 c3).mono (λnx aS hx=> ?_) λ_ _ h=>h;obtain⟨g,args,rfl,BN⟩:=hx;refine⟨g,args,rfl,BN.mono λnM V3 hx=> ?_⟩;obtain⟨E3,H3,q1,q2,q3,q4,q5|q5⟩:=hx
 ·exact⟨E3,H3,q1,q2,q3,q4,.inl q5⟩
 ·exact⟨E3,H3,q1,q2,q3,q4,.inr ⟨q5.1,q5.2.1,λpv' e=>by cases e;exact q5.2.2⟩⟩
end
open Go.Proofs Go.Gg.Tk
namespace Tk
def qO (x:ai):Bool:=(SZ (x.am.toNat+1)).any λbh=>(jA x bh).any λh=> !(gG x 0 h).isEmpty
end Tk
def uP:AV:=.cZ 136 (.agg [])
section
variable {lv:Bool}{H:List aa}{kr kp:List aa->Prop}
theorem aim{r:Nat}(h:∀L,kr (H++L)):qz lv SC (.fn (.func 95) [] [.op r 0],[]) H none kr kp:=by
 refine O8 (nt:=9) (by kernel_rfl) F.f95 rfl rfl rfl rfl rfl rfl rfl rfl (by kernel_rfl) (by simp) ?_;simp only[br,SW,UF,Vm];(try simp only[seval,F.LB]);refine eg (a:=[]) rfl ⟨rfl,by decide,by simp,?_⟩;refine aj ?_;refine aD ?_;refine afp ?_;exact .inl (h _)
theorem ain{r:Nat}{a:AV}(hr:H[r]?=some (.cells [a] 4))(h:∀L,kr (H.set r (.cells [bv true] 4)++L)):qz lv SC (.fn (.func 95) [] [.op r 0],[]) H (some uP) kr kp:=by
 refine O8 (nt:=9) (by kernel_rfl) F.f95 rfl rfl rfl rfl rfl rfl rfl rfl (by kernel_rfl) (by simp) ?_;simp only[br,SW,UF,S8,uP];(try simp only[seval,F.LB]);have ux:=eR hr;have xM:∀L:List aa,(H++L)[r]?=some (.cells [a] 4):=λL=>fI hr;refine aj ?_;refine aD ?_;refine ak ?_;simp only[seval,xM,uX ux];exact .inl (h _)
end
def qM (x:ai)(m:Lp)(h:List Int):dA Lp:=if(gG x 0 h).isEmpty then .go .ready else .bad .busy
theorem OT{x:ai}:∀(l:List (List Int)),bE (qM x) l .ready=if l.any (λh=> !(gG x 0 h).isEmpty)=true then .bad .busy else .go .ready
 |[]=>by simp[bE]
 |h::l=>by
  have ih:=OT (x:=x) l;by_cases he:(gG x 0 h).isEmpty=true
  ·have e1:qM x .ready h=.go .ready:=(by unfold qM;rw[if_pos he]);rw[bE,e1];dsimp only;rw[ih];simp only[YV,he,an_,ZB]
  ·have e1:qM x .ready h=.bad .busy:=(by unfold qM;rw[if_neg he]);rw[bE,e1];dsimp only;have e2:(gG x 0 h).isEmpty=false:=(by simpa using he);simp only[YV,e2,YD,ai',if_true]
theorem afE(l:List (List Int)):bE (λ(_:Lp) (_:List Int)=>(.bad .busy:dA Lp)) l .ready=if l.isEmpty then .go .ready else .bad .busy:=by
 cases l<;>rfl
def Bs (x:ai)(i:Nat):List aa:=[.cells x.l 76,.cells [iv i] 3,.obj (.deferred (some [])),.gone]
def kz (x:ai)(H:List aa):Nat->List aa
 |0=>H++[.cells x.l 76,.cells [bv false] 4]
 |i+1=>kz x H i++Bs x i
def w5 (H:List aa):Nat->List Nat
 |0=>[]
 |i+1=>(H.length+2+4* i+2)::w5 H i
theorem Is(x:ai)(H:List aa):∀i,(kz x H i).length=H.length+2+4* i
 |0=>by simp[kz]
 |i+1=>by simp[kz,Bs,Is x H i];omega
theorem OS(x:ai)(H:List aa):∀i,∃Y,kz x H i=H++[.cells x.l 76,.cells [bv false] 4]++Y
 |0=>⟨[],by simp[kz]⟩
 |i+1=>by
  obtain⟨Y,h⟩:=OS x H i;exact⟨Y++Bs x i,by rw[kz,h,SD]⟩
theorem Ir(x:ai)(H:List aa):∀(i:Nat)(L:List aa),∃Y,iC (w5 H i) (kz x H i++L)=some (H++[.cells x.l 76,.cells [bv false] 4]++Y)
 |0,L=>⟨L,by rw[w5,y_,kz]⟩
 |i+1,L=>by
  have hl:=Is x H i;have e:(kz x H (i+1)++L)=kz x H i++(Bs x i++L):=by rw[kz,SD]
  have hg:(kz x H i++(Bs x i++L))[H.length+2+4* i+2]?=some (.obj (.deferred (some []))):=by rw[<- hl,aX];rfl
  obtain⟨Y,hY⟩:=Ir x H i ([.cells x.l 76,.cells [iv i] 3,.gone,.gone]++L);refine⟨Y,?_⟩;rw[w5,e,y9 hg,<- hl,ec];exact hY
theorem OR(x:ai)(H:List aa)(i:Nat)(L:List aa):(kz x H i++L)[H.length]?=some (.cells x.l 76)/\(kz x H i++L)[H.length+1]?=some (.cells [bv false] 4):=by
 obtain⟨Y,h⟩:=OS x H i;rw[h,SD,SD];exact⟨aX H _ 0,aX H _ 1⟩
section
variable {lv:Bool}
theorem aiQ{P:SJ}(rs:List UL)(n:Nat)(c:AV×List AV)(k kp:AV->List aa->Prop)(pv:AV)(s:AS)(ms:List Nat):yA lv P rs n c k kp (.panic pv) s ms=ao (iC ms s.H) λH'=>qz lv P c H' (some pv) (λH'=>ao (gR P ⟨s.T,H'⟩ rs) λl=>cw n H' (iM l) k) (λH'=>cw n H' pv kp):=by rw[yA]
theorem aiR{P:SJ}(rs:List UL)(n:Nat)(c:AV×List AV)(k kp:AV->List aa->Prop)(s:AS)(ms:List Nat):yA lv P rs n c k kp .ret s ms=ao (iC ms s.H) λH'=>qz lv P c H' none (λH'=>ao (gR P ⟨s.T,H'⟩ rs) λl=>cw n H' (iM l) k) (λ_=>False):=by rw[yA]
theorem aia{H:List aa}{k kp:AV->List aa->Prop}{x:ai}(hx:x.Ok)(hk:k (bv (qO x)) H):bf lv SC 71 H [x.av] k kp:=by
 refine aiK (rs:=[.cell 2 4]) (nt:=24) F.f71 rfl rfl rfl (by simp) λhH hA=> ?_;simp only[br,SW,ai.av];have Jv:=Du hx;have hp:=hx.am;obtain⟨p,eG⟩:∃p:Nat,x.am=p:=⟨x.am.toNat,by omega⟩;have bS:x.l=[iv x.first,iv x.hours,iv x.am,dY x.seen,bp x.pieces,bp x.aB]:=rfl;have aT:∀(L:List aa),(H++L)[H.length]?=L[0]?:=λL=>aX H L 0;have hw:SF.wrap (x.am+1)=((p+1:Nat):Int):=by rw[eG,bG _ (by omega)];rfl
 refine ak ?_;simp only[seval,F.N1];refine OA (n:=1) rfl rfl rfl rfl rfl rfl (by kernel_rfl) ?_;(try simp only[seval,T8,UA,Uh,TP]);refine⟨⟨_,_,_,rfl⟩,_,rfl,λbs=> ?_⟩;refine Ek ?_;refine sv ?_;refine ak ?_;simp only[seval,aT,bS,hw];refine wX ?_;refine OC (measure λi=>p+1-i).wf (λi:Nat=>⟨[(10,iv i),(9,iv ((p+1:Nat):Int)),(2,.op (H.length+1) 0),(1,.op H.length 0)],kz x H i⟩) (λi=>w5 H i) (λi=>i<=p+1/\∀j,j<i->∀h∈jA x j,(gG x 0 h).isEmpty=true) 0 (fe (by simp only[seval];simp[bz,Wk.refl]) rfl) rfl ⟨by omega,λj hj=>by omega⟩ λi az=> ?_;obtain⟨ou,fO⟩:=az;have cL:=Is x H i;have og:=λL=>(OR x H i L).1;have xr:=λL=>(OR x H i L).2;obtain⟨N,hN⟩:∃N,N=H.length+2+4* i:=⟨_,rfl⟩;rw[<- hN]at cL;have Q7:(kz x H i)[H.length]?=some (.cells x.l 76):=by have:=og [];rwa [S0]at this
 refine sv ?_;refine aj ?_;refine sv ?_;refine aD ?_;refine⟨λh=> ?_,λh=> ?_⟩
 ·
  have pU:i<=3:=by omega
  refine aN ?_;refine Ek ?_;refine wX ?_;refine sv ?_;refine aj ?_;refine sv ?_;refine ak ?_;simp only[seval,Q7,bS];refine aK ((I5 (x:=x) (n:=i) ?_));rw[cL];(try simp only[seval]);refine wX ?_;refine Ih (by rfl) λl fn T ag bo hT xp pP=> ?_;have me:(kz x H i++[aa.cells x.l 76,aa.cells [iv i] 3]).length=N+2:=by rw[SO,cL];rfl
  (try simp only[seval]);rw[cL];obtain⟨B,hB⟩:∃B,B=kz x H i:=⟨_,rfl⟩;rw[<- hB]at cL Q7 og xr⊢;have bg:∀(L:List aa)(j:Nat),(B++L)[N+j]?=L[j]?:=λL j=>by rw[<- cL,aX]
  have Em:∀(L:List aa)(j:Nat)(y:aa),(B++L).set (N+j) y=B++L.set j y:=λL j y=>by rw[<- cL,ec]
  have Rd:∀(M:List aa)(lp:Lp),bP (B++([aa.cells x.l 76,.cells [iv i] 3,.obj (.deferred (some [])),.loop l .ready none fn T 24 #[16] ag bo (N+2)]++M))->bP (B++([aa.cells x.l 76,.cells [iv i] 3,.obj (.deferred (some [])),.loop l lp.st lp.pe fn T 24 #[16] ag bo (N+2)]++M)):=λM lp gY z hz=>by
   have hlen:(B++([aa.cells x.l 76,.cells [iv i] 3,.obj (.deferred (some [])),.loop l lp.st lp.pe fn T 24 #[16] ag bo (N+2)]++M)).length=(B++([aa.cells x.l 76,.cells [iv i] 3,.obj (.deferred (some [])),.loop l .ready none fn T 24 #[16] ag bo (N+2)]++M)).length:=(by simp);have hl:=gY (.loop l .ready none fn T 24 #[16] ag bo (N+2)) (by simp);rw[hlen];rcases SS.1 hz with h'|h'
   ·exact gY z (Ti _ h')
   ·rcases SS.1 h' with h'|h'
    ·simp only[SL,S4,or_false]at h';rcases h' with rfl|rfl|rfl|rfl
     ·exact gY _ (by simp)
     ·exact gY _ (by simp)
     ·exact gY _ (by simp)
     ·exact hl
    ·exact gY z (S6 _ (S6 _ h'))
  have hY:jN lv SC (.fn (.yield l) [] []) (qM x) (λlp:Lp=>B++[.cells x.l 76,.cells [iv i] 3,.obj (.deferred (some [])),.loop l lp.st lp.pe fn T 24 #[16] ag bo (N+2)]) (N+4) (λlp=>lp=.ready) (λh=>mB h/\∀ns∈fS x h,∀a∈(ie x h ns).map (db h ns),jn x a) uP:=by
   refine⟨λlp h M k kp gP ha dD=> ?_,λlp h C1 gP ha he=> ?_,λlp=>by simp[cL],λm lp C1 hz z fb=> ?_,rfl,rfl,rfl⟩
   ·replace gP:lp=.ready:=gP;subst gP;obtain⟨oV,CF⟩:=ha;have h4:=oV.len;have nq:(h.map iv).length=4:=(by rw[Tp,h4]);obtain⟨Lo,ld⟩:∃Lo,Lo=aa.loop l .busy none fn T 24 #[16] ag bo (N+2):=⟨_,rfl⟩;obtain⟨P1,dt⟩:∃P1:List aa,P1=B++([.cells x.l 76,.cells [iv i] 3,.obj (.deferred (some [])),Lo]++M):=⟨_,rfl⟩;have ey:P1.length=N+4+M.length:=(by rw[dt];simp[cL];omega);have pg3:∀(L:List aa),(P1++L)[N+3]?=some Lo:=λL=>(by rw[dt,SD,bg];rfl);have px:∀(L:List aa),(P1++L)[H.length]?=some (.cells x.l 76):=λL=>(by rw[dt,SD];exact og _);have pb:∀(L:List aa)(j:Nat),(P1++L)[N+4+M.length+j]?=L[j]?:=λL j=>(by rw[<- ey,aX]);have ww:∀(L:List aa),(P1++L)[N+4+M.length]?=L[0]?:=λL=>pb L 0;have pq:∀(L:List aa)(y:aa),(P1++L).set (N+4+M.length+4) y=P1++L.set 4 y:=λL y=>(by rw[<- ey,ec]);have s3:∀(L:List aa) y,(P1++L).set (N+3) y=B++([.cells x.l 76,.cells [iv i] 3,.obj (.deferred (some [])),y]++M)++L:=λL y=>by
     rw[dt,SD,Em];simp
    subst hT xp pP;rw[SD];refine vz (id:=N+3) (by rw[bg];rfl) rfl (by kernel_rfl) λn_ Jw=> ?_;simp only[rY];have vS:UD 4 [iv 0,iv 0,iv 0,iv 0]=[]:=rfl;refine ak ?_;simp only[seval,h4,vS];unfold tQ;refine⟨none,fn,_,24,#[16],_,_,_,by rw[bg];rfl,?_⟩;dsimp only;rw[Em];simp only[UC,TZ];rw[<- ld];have xi:B.length+(M.length+1+1+1+1)=N+4+M.length:=(by rw[cL];omega);rw[xi];have xA:∀z:aa,(B++aa.cells x.l 76::aa.cells [AV.val (SG SF ↑i)] 3::aa.obj (at0 (some []))::Lo::(M++[z]))=P1++[z]:=λz=>(by rw[dt];simp[iv]);rw[xA];refine ak ?_;simp only[seval,px,bS,ww,h4,nq];rw[SY (i:=4) (l:=h.map iv) (by rw[nq];exact SR _)];refine aK ((I6 (x:=x) (h:=h) (deep:=0) ?_));(try simp only[seval]);refine cy ?_;refine Ei (N+3) (by rfl) (by show (P1++_)[N+3]?=_;rw[pg3,ld]) λl2 eQ T2 gA gB oc xq xu=> ?_;simp only[seval];rw[ey];have xo:jN lv SC (.fn (.yield l2) [] []) (λ(_:Lp) (_:List Int)=>(.bad .busy:dA Lp)) (λlp:Lp=>P1++[.cells (h.map iv) 83,.cells x.l 76,.cells (h.map iv) 83,.cells [iv 0] 3,.loop l2 lp.st lp.pe eQ T2 24 #[20] gA gB (N+2)]) (N+4+M.length+5) (λlp=>lp=.ready) (λa=>a.length=11) uP:=by
     refine⟨λlp t M2 k2 xY gP ht lm=> ?_,λlp t C1 gP ht he=>(by cases he),λlp=>by simp[ey],λq lp C1 hz z fb=> ?_,rfl,rfl,rfl⟩
     ·replace gP:lp=.ready:=gP;subst gP;simp only[cW]at lm;have lV:∀(L:List aa),(P1++L)[N+4+M.length+4]?=L[4]?:=λL=>pb L 4;subst oc xq xu;rw[SD];refine vz (id:=N+4+M.length+4) (by rw[lV];rfl) rfl (by kernel_rfl) λqX Jx=> ?_;simp only[rY];refine aN ?_;unfold tQ;refine⟨none,eQ,_,24,#[20],_,_,_,by rw[lV];rfl,?_⟩;dsimp only;rw[pq];simp only[UC,TZ];refine ak ?_;simp only[seval,F.LB];show cw _ (P1++_) _ xY;rw[SD]at lm;exact bW lm
     ·rcases SS.1 fb with h'|h'
      ·exact hz z (Ti _ h')
      ·have hl:=hz _ (S6 _ (Tf (i:=4) rfl));simp only[SL,S4,or_false]at h';rcases h' with rfl|rfl|rfl|rfl|rfl
       ·exact hz _ (S6 _ (by simp))
       ·exact hz _ (S6 _ (by simp))
       ·exact hz _ (S6 _ (by simp))
       ·exact hz _ (S6 _ (by simp))
       ·exact hl
    rw[ey]at oc;have FA:∀n,Lt n uP:=λn=>(by simp[uP,aaN,tn]);refine cI (I_ (x:=x) (h:=h) (deep:=0) (ir:=N+4+M.length+1) (ih:=N+4+M.length+1+1) (id:=N+4+M.length+1+2) (σ:=Lp.ready) hx oV xo (λlp L=> ?_) (λlp L=> ?_) (λlp L=> ?_) FA rfl (λa ha=>ha) (λns i_ a ha=>(CF ns i_ a ha).len) ?_)
    ·rw[SD];exact pb _ 1
    ·rw[SD];exact pb _ 2
    ·rw[SD];exact pb _ 3
    rw[afE];have lV:∀(L:List aa),(P1++L)[N+4+M.length+4]?=L[4]?:=λL=>pb L 4;by_cases sP:(gG x 0 h).isEmpty=true
    ·rw[if_pos sP];have e1:qM x .ready h=.go .ready:=(by unfold qM;rw[if_pos sP]);rw[e1]at dD;simp only[cW]at dD;simp only[fV,S0];refine⟨.ready,none,_,_,_,_,_,_,_,by rw[lV];rfl,by decide,?_⟩;rw[pq,GQ];(try simp only[seval]);show oK _ _ _ _ _ _ _;refine⟨l,.busy,none,fn,_,24,#[16],_,_,N+2,by show (P1++_)[_]?=_;rw[pg3,ld],?_⟩;show cw (N+4+M.length) ((P1++_).set _ _) _ k;rw[s3];rw[SD]at dD;exact jR (G:=[.cells (h.map iv) 83,.cells x.l 76,.cells (h.map iv) 83,.cells [iv 0] 3,.gone]) (Wk.refl _) (by simp[iv];exact⟨rfl,rfl⟩) (by simp[cL];omega) (Rd M .ready n_) (.val _) dD
    ·rw[if_neg sP];have e1:qM x .ready h=.bad .busy:=(by unfold qM;rw[if_neg sP]);rw[e1]at dD;simp only[cW]at dD;simp only[fV,S0];show cw (N+4+M.length) (P1++_) uP kp;rw[SD]at dD;refine jR (H':=B++([aa.cells x.l 76,.cells [iv i] 3,.obj (.deferred (some [])),.loop l Lp.busy.st Lp.busy.pe fn _ 24 #[16] _ _ (N+2)]++M)) (Wk.refl _) (by rw[dt,ld];rfl) (by simp[cL];omega) (Rd M .busy n_) (FA _) dD
   ·replace gP:lp=.ready:=gP;subst gP;unfold qM at he;split at he
    ·cases he;rfl
    ·cases he
   ·rcases SS.1 fb with h'|h'
    ·exact hz z (Ti _ h')
    ·have hl:=hz _ (S6 _ (Tf (i:=3) rfl));simp only[SL,S4,or_false]at h';rcases h' with rfl|rfl|rfl|rfl
     ·exact hz _ (S6 _ (by simp))
     ·exact hz _ (S6 _ (by simp))
     ·exact hz _ (S6 _ (by simp))
     ·exact hl
  have FA:∀n,Lt n uP:=λn=>by simp[uP,aaN,tn]
  refine cI (I8 (x:=x) (bh:=i) (ir:=N) (it:=N+1) (σ:=Lp.ready) hx hY (λlp L=> ?_) (λlp L=> ?_) pU FA rfl (λa ha=>Jv i pU a ha) ?_)
  ·rw[SD];exact bg _ 0
  ·rw[SD];exact bg _ 1
  rw[OT];have bN:SF.wrap ((i:Int)+1)=((i+1:Nat):Int):=by rw[bG _ (by omega)];rfl
  by_cases EX:(jA x i).any (λh=> !(gG x 0 h).isEmpty)=true
  ·rw[if_pos EX];have JS:qO x=true:=by
    unfold qO;rw[Uv];exact⟨i,by rw[Tu];omega,EX⟩
   rw[JS]at hk;simp only[fV,S0];(try simp only[seval,aiQ]);obtain⟨Y,vI⟩:=Ir x H i [.cells x.l 76,.cells [iv i] 3,.gone,.loop l .busy none fn T 24 #[16] ag bo (N+2)];rw[<- hB]at vI;have hgo:iC ((N+2)::w5 H i) (B++[.cells x.l 76,.cells [iv i] 3,.obj (.deferred (some [])),.loop l Lp.busy.st Lp.busy.pe fn T 24 #[16] ag bo (N+2)])=some (H++[.cells x.l 76,.cells [bv false] 4]++Y):=by
    rw[y9 (by rw[bg];rfl),Em];exact vI
   refine eg hgo ?_;have dl:(H++[aa.cells x.l 76,.cells [bv false] 4]++Y)[H.length+1]?=some (.cells [bv false] 4):=(by rw[SD];exact aX H _ 1);refine ain dl λL=> ?_;have cT:((H++[aa.cells x.l 76,.cells [bv false] 4]++Y).set (H.length+1) (.cells [bv true] 4)++L)[H.length+1]?=some (.cells [bv true] 4):=by
    rw[SD,ec,SD];exact aX H _ 1
   (try simp only[seval,gR,uT,cT,aa.cellsOf]);exact lE hH hk
  ·rw[if_neg EX];simp only[fV,S0];refine⟨.ready,none,_,_,_,_,_,_,_,by show (B++_)[N+3]?=_;rw[bg];rfl,by decide,?_⟩;rw[show N+2+1=N+3 from rfl,Em,GP];(try simp only[seval]);refine Ej ?_;refine ak ?_;simp only[seval,bN];refine⟨i+1,?_,⟨by omega,λj hj g hm=> ?_⟩,fe (by push_cast;simp only[seval];simp[bz,Wk.refl]) (by rw[hB];rfl),by rw[w5,hN]⟩
   ·show p+1-(i+1)<p+1-i;omega
   ·by_cases cp:j<i
    ·exact fO j cp g hm
    ·have:j=i:=(by omega);subst this;apply Tl;intro aE;exact EX (Uv.2 ⟨g,hm,by simpa using aE⟩)
 ·
  have dw:i=p+1:=by omega
  subst dw;have JS:qO x=false:=by
   unfold qO;rw[Bool.eq_false_iff];intro hc;obtain⟨j,h1,h2⟩:=Uv.1 hc;obtain⟨h,h3,h4⟩:=Uv.1 h2;rw[Tu]at h1;have:=fO j (by omega) h h3;rw[this]at h4;cases h4
  rw[JS]at hk;have Q3:(kz x H (p+1))[H.length+1]?=some (.cells [bv false] 4):=by have:=xr [];rwa [S0]at this
  refine bZ ?_;refine sv ?_;refine ak ?_;simp only[seval,Q3];rw[qt Q3];refine Ej ?_;refine oN ?_;rw[aiR];obtain⟨Y,vI⟩:=Ir x H (p+1) [];rw[S0]at vI;refine eg vI ?_;refine aim λL=> ?_;have cT:(H++[aa.cells x.l 76,.cells [bv false] 4]++Y++L)[H.length+1]?=some (.cells [bv false] 4):=by
   rw[SD,SD];exact aX H _ 1
  (try simp only[seval,gR,uT,cT,aa.cellsOf]);exact lE hH hk
end
open Go.Conc Go.Proofs Go.Gg.Tk
section
variable {lv:Bool}{H:List aa}{k kp:AV->List aa->Prop}
theorem sE{n lo hi:Int}(hk:k (bv (decide (n<lo)||decide (n>hi))) H):bf lv SC 59 H [iv n,iv lo,iv hi] k kp:=by
 refine bH (rs:=[.tmp 6]) (nt:=15) Tryz.f59 λhH hA=> ?_;simp only[br,SW];refine aj ?_;by_cases h:n<lo
 ·have h1:decide (n<lo)=true:=by simpa using h
  refine ak ?_;simp only[seval,h1];refine aZ ?_;rw[h1,ai']at hk;exact bW hk
 ·have h1:decide (n<lo)=false:=by simpa using h
  refine ak ?_;simp only[seval,h1];refine aZ ?_;rw[h1,ZB]at hk;exact bW hk
theorem I0{b:jk}{hi e at':Int}(hb:u_ b hi)(hk:k (.val .nilIface) H):bf lv SC 104 H [b.av,iv hi,iv e,iv at'] k kp:=by
 refine bH (rs:=[.tmp 8]) (nt:=33) Tryz.f104 λhH hA=> ?_;simp only[br,SW,jk.av];have h1:(decide (b.min<0)||decide (b.min>hi))=false:=by have:=hb.min;have:=hb.le;have:=hb.max;simp;omega
 have h2:(decide (b.max<0)||decide (b.max>hi))=false:=by have:=hb.min;have:=hb.le;have:=hb.max;simp;omega
 have h3:decide (b.min>b.max)=false:=by have:=hb.le;simp;omega
 refine aj ?_;refine ak ?_;simp only[seval,jk.l];refine aK ((sE ?_));(try simp only[seval,h1]);refine aK ((sE ?_));(try simp only[seval,h2]);refine aD ?_;refine ak ?_;simp only[seval,h3];refine aD ?_;refine aN ?_;refine aj ?_;refine aZ ?_;exact lE hH hk
theorem ah2(hk:k (bv true) H):bf lv SC 52 H [] k kp:=by
 refine bH (rs:=[.tmp 0]) (nt:=1) Tryz.f52 λhH hA=> ?_;simp only[br,SW];refine aj ?_;refine aj ?_;refine aZ ?_;exact bW hk
theorem ahy{t:AV}(hk:k (bv false) H):bf lv SC 105 H [.val .nilIface,t] k kp:=by
 refine bH (rs:=[.tmp 4]) (nt:=42) Tryz.f105 λhH hA=> ?_;simp only[br,SW];refine aj ?_;refine ak ?_;simp only[seval,F.CQ];refine aD ?_;refine aj ?_;refine aZ ?_;exact bW hk
theorem aih(hk:k (iv 0) H):bf lv SC 84 H [.val .nilIface] k kp:=by
 refine bH (rs:=[.tmp 2]) (nt:=9) Tryz.f84 λhH hA=> ?_;simp only[br,SW];refine aj ?_;refine aj ?_;refine ak ?_;simp only[seval,F.alC];refine aK ((ahy ?_));(try simp only[seval]);refine aD ?_;refine aN ?_;refine aj ?_;refine aZ ?_;exact lE hH hk
theorem aig{x:ai}{y:Seen}{at':Int}(hh:0<=y.hour/\y.hour<=x.hours)(hb:u_ y.next 99)(hk:k (.val .nilIface) H):bf lv SC 83 H [x.av,y.av,iv at'] k kp:=by
 refine bH (rs:=[.tmp 6]) (nt:=19) Tryz.f83 λhH hA=> ?_;simp only[br,SW,ai.av,Seen.av];have bS:x.l=[iv x.first,iv x.hours,iv x.am,dY x.seen,bp x.pieces,bp x.aB]:=rfl;have h1:(decide (y.hour<0)||decide (y.hour>x.hours))=false:=by simp;omega
 refine ak ?_;simp only[seval,bS,Seen.l];refine aj ?_;refine aK ((sE ?_));(try simp only[seval,h1]);refine aD ?_;refine aN ?_;refine aj ?_;refine aK ((I0 (b:=y.next) hb ?_));(try simp only[seval]);refine aZ ?_;exact lE hH hk
theorem PY{x:ai}{l:List aC}(hx:x.Ok)(hl:∀y∈l,HO x y)(pY:l.length<=4)(hk:k (.val .nilIface) H):bf lv SC 85 H [x.av,bp l] k kp:=by
 refine bH (rs:=[.tmp 4]) (nt:=34) Tryz.f85 λhH hA=> ?_;simp only[br,SW,ai.av];have bS:x.l=[iv x.first,iv x.hours,iv x.am,dY x.seen,bp x.pieces,bp x.aB]:=rfl;have aT:∀(L:List aa),(H++L)[H.length]?=L[0]?:=λL=>aX H L 0;have Fq:=hx.hours;have xT:SF.wrap (x.hours-1)=x.hours-1:=bG _ (by omega);refine ak ?_;simp only[seval,bS];refine ak ?_;simp only[seval,bp];refine cy ?_;refine pE l.length (λi:Nat=>[(11,iv i)]) (λ_=>_) (λi=>True) trivial (λbU cS i cM _ R hR=> ?_);refine aj ?_;refine aD ?_;refine⟨λh=> ?_,λh=> ?_⟩
 ·have bB:i<l.length:=by omega
  obtain⟨y,hy⟩:=bX bB;have CM:=hl y (Tf hy);have bN:SF.wrap ((i:Int)+1)=((i+1:Nat):Int):=by rw[bG _ (by omega)];rfl
  refine aN ?_;refine ak ?_;simp only[seval,G7 hy,jp bB];refine aj ?_;refine aK ((I0 (b:=y.number) CM.number ?_));(try simp only[seval]);refine ak ?_;simp only[seval,F.CQ];refine aD ?_;refine aN ?_;refine ak ?_;simp only[seval,aT,xT];refine aK ((I0 (b:=y.hour) CM.hour ?_));(try simp only[seval]);refine ak ?_;simp only[seval,F.CQ];refine aD ?_;refine aN ?_;refine ak ?_;simp only[seval,bN];exact hR _ ⟨bB,trivial,Ao (pf rfl rfl) (by simp only[seval];simp[bz,Wk.refl]) bU (by simp[eI])⟩
 ·refine bZ ?_;refine aj ?_;refine aZ ?_;exact lE hH hk
theorem I4{x:ai}(hx:x.Ok)(hk:k (iv 0) H):bf lv SC 62 H [x.av] k kp:=by
 refine bH (rs:=[.tmp 2]) (nt:=62) Tryz.f62 λhH hA=> ?_;simp only[br,SW,ai.av];have bS:x.l=[iv x.first,iv x.hours,iv x.am,dY x.seen,bp x.pieces,bp x.aB]:=rfl;have aT:∀(L:List aa),(H++L)[H.length]?=L[0]?:=λL=>aX H L 0;have h1:(decide (x.first<0)||decide (x.first>90))=false:=by have:=hx.first;simp;omega
 have h2:(decide (x.hours<1)||decide (x.hours>3))=false:=by have:=hx.hours;simp;omega
 have h3:(decide (x.am<1)||decide (x.am>3))=false:=by have:=hx.am;simp;omega
 have g3:decide ((3:Int)<x.seen.length)=false:=by have:=hx.yi;simp;omega
 have g4:decide ((4:Int)<x.pieces.length)=false:=by have:=hx.c9;simp;omega
 have g5:decide ((3:Int)<x.aB.length)=false:=by have:=hx.eK;simp;omega
 refine ak ?_;simp only[seval,bS];refine ak ?_;simp only[seval,aT];refine aK ((sE ?_));(try simp only[seval,h1,aT]);refine aK ((sE ?_));(try simp only[seval,h2,aT]);refine aK ((sE ?_));(try simp only[seval,h3]);refine aD ?_;refine aN ?_;refine ak ?_;simp only[seval,aT,dY,g3];refine aD ?_;refine aN ?_;refine ak ?_;simp only[seval,aT,dY];refine cy ?_;refine pE x.seen.length (λi:Nat=>[(27,iv i)]) (λ_=>_) (λi=>True) trivial (λbU cS i cM _ R hR=> ?_);refine aj ?_;refine aD ?_;refine⟨λh=> ?_,λh=> ?_⟩
 ·have bB:i<x.seen.length:=by omega
  obtain⟨y,hy⟩:=bX bB;have CM:=hx.seen y (Tf hy);have bN:SF.wrap ((i:Int)+1)=((i+1:Nat):Int):=by have:=hx.yi;rw[bG _ (by omega)];rfl
  refine aN ?_;refine ak ?_;simp only[seval,acp hy,jp bB];refine ak ?_;simp only[seval,aT];refine aK ((aig (x:=x) (y:=y) CM.1 CM.2 ?_));(try simp only[seval]);refine ak ?_;simp only[seval,F.CQ];refine aD ?_;refine aN ?_;refine ak ?_;simp only[seval,bN];exact hR _ ⟨bB,trivial,Ao (pf rfl rfl) (by simp only[seval];simp[bz,Wk.refl]) bU (by simp[eI])⟩
 ·refine bZ ?_;refine ak ?_;simp only[seval,aT,bp,g4];refine aD ?_;refine aN ?_;refine ak ?_;simp only[seval,aT];refine aK ((PY (x:=x) (l:=x.pieces) hx hx.piece hx.c9 ?_));(try simp only[seval]);refine ak ?_;simp only[seval,F.CQ];refine aD ?_;refine aN ?_;refine ak ?_;simp only[seval,aT,g5];refine aD ?_;refine aN ?_;refine ak ?_;simp only[seval,aT];refine aK ((PY (x:=x) (l:=x.aB) hx hx.stub (by have:=hx.eK;omega) ?_));(try simp only[seval]);refine aK ((aih ?_));(try simp only[seval]);refine aZ ?_;exact lE hH hk
end
def NS (lv:Bool)(H:List aa)(f:AV)(b:Bool):Prop:=∀(L:List aa)(k kp:AV->List aa->Prop),k (bv b) (H++L)->iQ lv SC f (H++L) [] k kp
def qx:List AV:=[iv 0,iv 0,iv 0,.sl 0 [] .exact,.sl 0 [] .exact,.sl 0 [] .exact]
def ew (D:Kn):Int:=if D.has then 0 else 11
theorem yY{x:ai}{deep:Int}{p:Nat}{H:List aa}{k kp:AV->List aa->Prop}{f:AV}{b:Bool}(hx:x.Ok)(hp:x.am=p)(hm:H[0]?=some .main)(hf:NS true H f b)(gO:b=false->k (.aJ [.agg qx,.agg jj,iv 3]) H)(b_:b=true->∀js D L mp,js.Perm (SZ (p+1))->nU x deep js D->bI D->H.length<=mp->(H++L)[mp]?=some (setH D.aL)->k (.aJ [x.av,.agg (D.l mp),iv (ew D)]) (H++L)):bf true SC 51 H [x.av,iv deep,f] k kp:=by
 refine bH (rs:=[.cell 6 76,.cell 7 88,.tmp 8]) (nt:=36) Tryz.f51 λhH hA=> ?_;simp only[br,SW,ai.av];have bS:x.l=[iv x.first,iv x.hours,iv x.am,dY x.seen,bp x.pieces,bp x.aB]:=rfl;have aT:∀(L:List aa),(H++L)[H.length]?=L[0]?:=λL=>aX H L 0;have dg:∀(L:List aa),(H++L)[H.length+1]?=L[1]?:=λL=>aX H L 1;have lg:∀(L:List aa),(H++L)[H.length+2]?=L[2]?:=λL=>aX H L 2;refine aj ?_;refine ak ?_;simp only[seval,aT,bS];refine aK ((I4 (x:=x) hx ?_));(try simp only[seval]);refine aj ?_;refine aD ?_;refine aN ?_;refine aj ?_;refine wZ (hf _ _ _ ?_);(try simp only[seval]);refine aD ?_;refine⟨λhb=> ?_,λhb=> ?_⟩
 ·have dB:b=false:=by simpa using hb
  have:=gO dB;refine aj ?_;refine oN ?_;simp only[seval,dg,lg];exact jr hH (Wk.refl _) (by simp[je,tn,eI,qx,jj,L_]) this
 ·have dB:b=true:=by simpa using hb
  refine aN ?_;refine ak ?_;simp only[seval,aT];refine⟨⟨rfl,rfl,rfl⟩,?_⟩;have zp:∀(L:List aa),(H++L)[H.length+3]?=L[3]?:=λL=>aX H L 3;refine ak ?_;simp only[seval,zp];refine aK ((aid (x:=x) hx (Du hx) hp (fI hm) λjs D L5 io jB bY hl5=> ?_));have b8:=λmp=>Kn.len bY mp;have eA:=uH D;obtain⟨z0,z1,z2,z3,z4,rfl⟩:∃z0 z1 z2 z3 z4,L5=[z0,z1,z2,z3,z4]:=by
   match L5,hl5 with
   |[a,b,c,d,e],_=>exact⟨a,b,c,d,e,rfl⟩
  (try simp only[seval,b8]);refine⟨eA _,?_⟩;have gf:∀(L:List aa)(j:Nat),(H++L)[H.length+j]?=L[j]?:=λL j=>aX H L j;have zO:∀(L:List aa)(j:Nat)(y:aa),(H++L).set (H.length+j) y=H++L.set j y:=λL j y=>ec H L j y;have ajT:∀(L:List aa),(H++L)[H.length+10]?=L[10]?:=λL=>aX H L 10;obtain⟨mp,sW⟩:∃mp,mp=H.length+4+5:=⟨_,rfl⟩;rw[<- sW];refine ak ?_;simp only[seval,ajT,Kn.BI];obtain⟨ln,e9⟩:∃ln:List AV->List AV->List aa,∀u v,ln u v=H++[.cells x.l 26,.cells u 76,.cells v 88,.cells x.l 76,z0,z1,z2,z3,z4,setH D.aL,.cells (D.l mp) 88]:=⟨_,λ_ _=>rfl⟩;have p1:∀u v,(ln u v)[H.length+1]?=some (.cells u 76):=λu v=>by rw[e9,gf];rfl
  have p2:∀u v,(ln u v)[H.length+2]?=some (.cells v 88):=λu v=>by rw[e9,gf];rfl
  have p3:∀u v,(ln u v)[H.length+3]?=some (.cells x.l 76):=λu v=>by rw[e9,gf];rfl
  have p10:∀u v,(ln u v)[H.length+10]?=some (.cells (D.l mp) 88):=λu v=>by rw[e9,gf];rfl
  have s1:∀u v w,(ln u v).set (H.length+1) (.cells w 76)=ln w v:=λu v w=>by rw[e9,zO,e9];rfl
  have s2:∀u v w,(ln u v).set (H.length+2) (.cells w 88)=ln u w:=λu v w=>by rw[e9,zO,e9];rfl
  have ee:∀(e:Int),e=ew D->k (.aJ [x.av,.agg (D.l mp),iv e]) (ln x.l (D.l mp)):=λe he=>by
   rw[he,e9];refine b_ dB js D _ mp io jB bY (by omega) ?_;rw[sW,show H.length+4+5=H.length+9 from rfl,gf];rfl
  have e0:=e9 qx jj;simp only[qx,jj,bS,iv,bv,wv,TM,Vf,UF,push_cast,Int.cast_ofNat_Int]at e0;rw[<- e0];clear e0;have bm:x.l.length=6:=rfl;have oy:jj.length=28:=rfl;have hzr:qx.length=6:=rfl;have dZ:Uq 6 x.l=x.l:=rfl;have FW:Uq 28 (D.l mp)=D.l mp:=SY (by rw[b8];exact SR _);have vR:∀l:List AV,l.length=28->D.l mp++UD (D.l mp).length l=D.l mp:=λl hl=>by rw[b8,TS (by omega),S0]
  have aaf:∀a∈x.l,a.leaf=true:=λa ha=>by
   simp only[ai.l,SL,S4,or_false]at ha;rcases ha with rfl|rfl|rfl|rfl|rfl|rfl<;>rfl
  refine aD ?_;refine⟨λhh=> ?_,λhh=> ?_⟩
  ·have Jz:D.has=false:=(by simpa using hh);have:=ee 11 (by rw[ew,Jz];rfl);refine qK [2,3] [0,1,2,3,4] [⟨0,false,[],[]⟩,⟨1,false,[],[([2],[2])]⟩,⟨2,true,[2],[]⟩,⟨3,true,[2,3],[]⟩,⟨4,false,[2,3],[]⟩] (λD'=>bif isDone 3 D' then ln x.l (D.l mp)else bif isDone 2 D' then ln x.l jj else ln qx jj) ?_;simp only[seval,p1,p2,p3,p10,s1,s2,b8,bm,oy,hzr,eA];rw[dZ,FW];refine⟨rfl,SR _,aaf,rfl,b8 _,by rw[b8];exact SR _,eA _,by rw[vR _ rfl];rfl,?_⟩;refine oN ?_;simp only[seval,p1,p2,b8];rw[FW];refine eg (a:=[x.av,.agg (D.l mp),iv 11]) rfl ?_;exact bW this
  ·have Jz:D.has=true:=(by simpa using hh);have:=ee 0 (by rw[ew,Jz];rfl);refine aN ?_;refine qK [2,3] [0,1,2,3,4] [⟨0,false,[],[]⟩,⟨1,false,[],[([2],[2])]⟩,⟨2,true,[2],[]⟩,⟨3,true,[2,3],[]⟩,⟨4,false,[2,3],[]⟩] (λD'=>bif isDone 3 D' then ln x.l (D.l mp)else bif isDone 2 D' then ln x.l jj else ln qx jj) ?_;simp only[seval,p1,p2,p3,p10,s1,s2,b8,bm,oy,hzr,eA];rw[dZ,FW];refine⟨rfl,SR _,aaf,rfl,b8 _,by rw[b8];exact SR _,eA _,by rw[vR _ rfl];rfl,?_⟩;refine oN ?_;simp only[seval,p1,p2,b8];rw[FW];refine eg (a:=[x.av,.agg (D.l mp),iv 0]) rfl ?_;exact bW this
namespace Tk
def dM (s:Nat)(more:Int)(i:Nat):List Int:=((SZ i).filter s.testBit).map λn:Nat=>(n:Int)+more
theorem aaI(s:Nat)(more:Int)(i:Nat):dM s more (i+1)=if s.testBit i then dM s more i++[(i:Int)+more]else dM s more i:=by
 unfold dM;rw[Vk,List.filter_append,TF];by_cases h:s.testBit i=true
 ·simp[h]
 ·simp[h]
theorem L6(s:Nat)(more:Int)(i:Nat):(dM s more i).length<=i:=by
 unfold dM;rw[Tp];exact UB (List.length_filter_le _ _) (by simp)
end Tk
theorem z1:gI (SG .i64 0) 1=[iv 0]:=rfl
section
variable {lv:Bool}{H:List aa}{k kp:AV->List aa->Prop}
theorem EB{s:Nat}{more:Int}(hs:s<65536)(hm:0<=more/\more<=1000)(hk:k (ba (dM s more 16)) H):bf lv SC 56 H [wv s,iv more] k kp:=by
 refine bH (rs:=[.tmp 4]) (nt:=21) Tryz.f56 λhH hA=> ?_;simp only[br,SW];refine aj ?_;refine aj ?_
 (repeat apply gW);refine vq (t:=5) (sz:=1) (el:=3) (by simp only[seval]<;>rfl) ?_
 refine aj ?_;refine cy ?_;refine gL 16 (λi:Nat=>[(5,.sl (dM s more i).length ((dM s more i).map iv) (.opn H.length)),(7,iv i)]) (λi=>H++[.tail (dM s more i).length 1 3]) (λ_=>True) (λ_ _=>rfl) (by simp only[seval];simp[bz,Wk.refl];exact Wk.refl _) rfl (λ_ _ _=>by simp) trivial (λbU cS i cM hi R hR=> ?_);refine aj ?_;refine aD ?_;refine⟨λh=> ?_,λh=> ?_⟩
 ·have hl:i<16:=by omega
  have fK:SF.wrap ((i:Int)+1)=((i+1:Nat):Int):=by rw[bG _ (by omega)];rfl
  have un:SF.wrap ((i:Int)+more)=(i:Int)+more:=bG _ (by omega);have iY:=L6 s more i;refine aN ?_;refine aj ?_;refine aj ?_;refine aK ((xc hs ?_));(try simp only[seval]);refine aD ?_;refine⟨λhb=> ?_,λhb=> ?_⟩
  ·refine ak ?_;simp only[seval,z1,un]
   first|refine⟨by decide,by omega,?_⟩|refine⟨by omega,?_⟩
   refine ak ?_;simp only[seval,fK];have da:dM s more (i+1)=dM s more i++[(i:Int)+more]:=(by rw[aaI,if_pos hb]);refine hR _ ⟨hl,trivial,?_⟩;rw[da,TF,SO];exact dq
  ·refine aN ?_;refine ak ?_;simp only[seval,fK];have da:dM s more (i+1)=dM s more i:=(by rw[aaI,if_neg (by simpa using hb)]);refine hR _ ⟨hl,trivial,?_⟩;rw[da];exact dq
 ·refine bZ ?_;have:i=16:=by omega
  subst this;refine aj ?_;refine aZ ?_;rw[ba]at hk;exact jr hH (iP _ _ _) (by simp[tp,eI]) hk
theorem aif{x:ai}{n:Int}{ir:Nat}(hx:x.Ok)(hr:H[ir]?=some (.cells x.l 26))(hk:k (bv (decide (n<0)||decide (n>(x.pieces.length:Int)-1))) H):bf lv SC 82 H [iv n,.op ir 0] k kp:=by
 refine bH (rs:=[.tmp 3]) (nt:=10) Tryz.f82 λhH hA=> ?_;simp only[br,SW];have bS:x.l=[iv x.first,iv x.hours,iv x.am,dY x.seen,bp x.pieces,bp x.aB]:=rfl;have mh:=hx.c9;have hw:SF.wrap ((x.pieces.length:Int)-1)=(x.pieces.length:Int)-1:=bG _ (by omega);refine aj ?_;refine ak ?_;simp only[seval,hr,bS,bp,hw];refine aK ((sE ?_));(try simp only[seval]);refine aZ ?_;exact bW hk
theorem ahx{ns:List Int}{f:AV}{e:End}(i_:ns.length<=4)(g:Int->Bool)(hf:∀n∈ns,∀(k kp:AV->List aa->Prop),k (bv (g n)) H->iQ lv SC f H [iv n] k kp)(hk:k (iv (match ns.findIdx? g with|some i=>(i:Int)|none=> -1)) H):bf lv SC 103 H [.sl ns.length (ns.map iv) e,f] k kp:=by
 refine bH (rs:=[.tmp 4]) (nt:=19) Tryz.f103 λhH hA=> ?_;simp only[br,SW];refine aj ?_;refine aj ?_;refine cy ?_;refine pE ns.length (λi:Nat=>[(8,iv i)]) (λ_=>_) (λi=>∀n∈ns.take i,g n=false) (by simp) (λbU cS i cM hi R hR=> ?_);refine aj ?_;refine aD ?_;refine⟨λh=> ?_,λh=> ?_⟩
 ·have bB:i<ns.length:=by omega
  obtain⟨n,hn⟩:=bX bB;have fK:SF.wrap ((i:Int)+1)=((i+1:Nat):Int):=by rw[bG _ (by omega)];rfl
  refine aN ?_;refine aj ?_;refine ak ?_;simp only[seval,eJ hn,jp bB];refine wZ (hf n (Tf hn) _ _ ?_);(try simp only[seval]);refine aD ?_;refine⟨λhg=> ?_,λhg=> ?_⟩
  ·refine aj ?_;refine aZ ?_;have:ns.findIdx? g=some i:=by
    rw[Xr];refine⟨bB,?_,λj hj=> ?_⟩
    ·rw[SQ bB]at hn;cases hn;exact hg
    ·have:=hi ns[j] (by rw[List.mem_take_iff_getElem];exact⟨j,by omega,rfl⟩);simp[this]
   rw[this]at hk;exact bW hk
  ·refine aN ?_;refine ak ?_;simp only[seval,fK];refine hR _ ⟨bB,λm hm=> ?_,dq⟩;rw[VI,hn]at hm;rcases SS.1 hm with h'|h'
   ·exact hi m h'
   ·simp at h';rw[h'];simpa using hg
 ·have:i=ns.length:=by omega
  subst this;rw[TH]at hi;refine bZ ?_;refine aj ?_;refine aZ ?_;have:ns.findIdx? g=none:=by rw[Yd];exactλn hn=>hi n hn
  rw[this]at hk;exact bW hk
theorem aie{ns:List Int}{f:AV}{e:End}(i_:ns.length<=4)(g:Int->Bool)(hf:∀n∈ns,∀(k kp:AV->List aa->Prop),k (bv (g n)) H->iQ lv SC f H [iv n] k kp)(hk:k (bv (ns.any g)) H):bf lv SC 81 H [.sl ns.length (ns.map iv) e,f] k kp:=by
 refine bH (rs:=[.tmp 4]) (nt:=9) Tryz.f81 λhH hA=> ?_;simp only[br,SW];refine aj ?_;refine aj ?_;refine aK ((ahx i_ g hf ?_));(try simp only[seval]);refine aZ ?_;refine bW ?_;have:decide ((match ns.findIdx? g with|some i=>(i:Int)|none=> -1)>=0)=ns.any g:=by
  cases h:ns.findIdx? g with
  |none=>
   rw[Yd]at h;have:ns.any g=false:=by
    rw[List.any_eq_false];exactλn hn=>by simp[h n hn]
   rw[this];rfl
  |some i=>
   rw[Xr]at h;obtain⟨h1,h2,_⟩:=h;have:ns.any g=true:=Uv.2 ⟨ns[i],VQ h1,h2⟩;rw[this];simp
 rw[this];exact hk
def yd (x:ai)(ns:List Int):Bool:= !(ns.any λn=>decide (n<0)||decide (n>(x.pieces.length:Int)-1))
theorem I7{x:ai}{ns:List Int}{e:End}{il ir:Nat}(hx:x.Ok)(i_:ns.length<=4)(hl:H[il]?=some (.cells [.sl ns.length (ns.map iv) e] 22))(hr:H[ir]?=some (.cells x.l 26))(hk:k (bv (yd x ns)) H):bf lv SC 80 H [.op il 0,.op ir 0] k kp:=by
 refine bH (rs:=[.tmp 2]) (nt:=7) Tryz.f80 λhH hA=> ?_;simp only[br,SW];refine aj ?_;refine ak ?_;simp only[seval,hl,T8,UA,Uh,TP];refine aK ((aie (ns:=ns) i_ (λn=>decide (n<0)||decide (n>(x.pieces.length:Int)-1)) (λn hn k kp hk=> ?_) ?_))
 ·exact cI (aif hx hr hk)
 (try simp only[seval]);refine aZ ?_;exact bW hk
theorem n4{x:ai}{ns:List Int}{e:End}(hk:k (.fn (.func 80) [] [.op (H.length+1) 0,.op H.length 0]) (H++[.cells x.l 26,.cells [.sl ns.length (ns.map iv) e] 22])):bf lv SC 58 H [x.av,.sl ns.length (ns.map iv) e] k kp:=by
 refine bH (rs:=[.tmp 4]) (nt:=6) Tryz.f58 λhH hA=> ?_;simp only[br,SW,ai.av];refine aj ?_;refine ak ?_;simp only[seval,T8,UA,Uh,TP];refine aZ ?_;exact bW hk
end
open Go.Conc Go.Proofs Go.Gg.Tk
structure bt where
 ay:List Int
 g:Int
 s:Int
def yo (τ:bt):aa:=.cells [ba τ.ay,.val (.int .i64 τ.g),.val (.int .u64 τ.s)] 73
def HB (a b:Int):Int:=TB.wrap (Ug TB.bits a^^^Ug TB.bits b).toNat
def adu (g:Int):Int:=TB.wrap (TB.wrap (TB.wrap g* 15074714826142052245)+11400714819323198485)
def NB (τ:bt):Int:=match τ.ay[τ.g.toNat]?with
 |some x=>HB (adu τ.g) (TB.wrap (TB.wrap x* 12620523164723586485))
 |none=>adu τ.g
def am8 (s w:Int):Int:=TB.wrap (TB.wrap (s+w)* 13787848793156543929)
def am9 (s:Int):Int:=HB s (s.fdiv (2^min 31 TB.bits))
def GK (s:Int):Int:=(HB s (s.fdiv (2^min 27 TB.bits))).fdiv (2^min 9 TB.bits)
def tick (τ:bt):bt:=⟨τ.ay,τ.g+1,am9 (am8 τ.s (NB τ))⟩
def ws (τ:bt):Int:=GK (TB.wrap ((tick τ).s* 10723151780598845931))
theorem adn(n:Int)(h0:0<=n)(h:n<2^64):TB.wrap n=n:=by
 have h1:TB.bits=64:=rfl;have h2:TB.signed=false:=rfl;unfold Xc;rw[h1,h2];simp;omega
theorem arD(n:Int):0<=TB.wrap n/\TB.wrap n<2^64:=by
 have h1:TB.bits=64:=rfl;have h2:TB.signed=false:=rfl;unfold Xc;rw[h1,h2];simp;omega
theorem abr(s:Int):0<=GK s/\GK s<2^55:=by
 unfold GK HB;have h:=arD (Ug TB.bits s^^^Ug TB.bits (s.fdiv (2^min 27 TB.bits))).toNat;have e:(2:Int)^min 9 TB.bits=512:=by decide
 rw[e,Int.fdiv_eq_ediv_of_nonneg _ (show (0:Int)<=512 by decide)];omega
def dE (τ:bt)(n:Int):Int:=if n<1 then 0 else(ws τ).tmod (n+1)
theorem mW(τ:bt)(n:Int):0<=dE τ n/\(dE τ n<=n\/dE τ n=0):=by
 unfold dE;split
 ·omega
 ·have h:=(abr (TB.wrap ((tick τ).s* 10723151780598845931))).1;have h1:=Int.tmod_nonneg (n+1) h;have h2:=Int.tmod_lt_of_pos (ws τ) (show 0<n+1 by omega);unfold ws at h2⊢;omega
def Dz (τ:bt)(lo hi:Int):Int:=lo+dE τ (hi-lo)
theorem arR(τ:bt){lo hi:Int}(h:lo<=hi):lo<=Dz τ lo hi/\Dz τ lo hi<=hi:=by
 have:=mW τ (hi-lo);unfold Dz;omega
def apd (τ:bt)(n:Int):Bool:=dE τ (n-1)==0
structure dX (Gf:bt->List aa)(t N:Nat):Prop where
 len:∀τ,(Gf τ).length=N
 get:∀τ,(Gf τ)[t]?=some (yo τ)
 set:∀τ τ',(Gf τ).set t (yo τ')=Gf τ'
 ok:∀m τ τ',(∀z∈Gf τ,eV m z)->∀z∈Gf τ',eV m z
theorem dX.more{Gf:bt->List aa}{t N:Nat}(h:dX Gf t N)(L:List aa):dX (λτ=>Gf τ++L) t (N+L.length)where
 len:=λτ=>by simp[h.len]
 get:=λτ=>fI (h.get τ)
 set:=λτ τ'=>by show (Gf τ++L).set t _=_;rw[WB _ _ (eR (h.get τ)),h.set]
 ok:=λm τ τ' hk z hz=>(SS.1 hz).elim (λhz=>h.ok m τ τ' (λv hv=>hk v (Ti _ hv)) z hz) (λhz=>hk z (S6 _ hz))
theorem dX.az{Gf:bt->List aa}{t N:Nat}(h:dX Gf t N){τ:bt}(hH:bP (Gf τ))(τ':bt):bP (Gf τ'):=λz hz=>by
 have:=h.ok N τ τ' (λw hw=>by have:=hH w hw;rwa [h.len]at this) z hz;rwa [h.len]
section
variable {Gf:bt->List aa}{t N:Nat}(h:dX Gf t N)
include h
theorem dX.g0(τ:bt)(L:List aa):(Gf τ++L)[N]?=L[0]?:=by have:=vg (Gf τ) L 0;rwa [h.len]at this
theorem dX.g1(τ:bt)(L:List aa):(Gf τ++L)[N+1]?=L[1]?:=by have:=vg (Gf τ) L 1;rwa [h.len]at this
theorem dX.g2(τ:bt)(L:List aa):(Gf τ++L)[N+1+1]?=L[2]?:=by have:=vg (Gf τ) L 2;rwa [h.len]at this
theorem dX.g3(τ:bt)(L:List aa):(Gf τ++L)[N+1+1+1]?=L[3]?:=by have:=vg (Gf τ) L 3;rwa [h.len]at this
theorem dX.h2(τ:bt)(L:List aa):(Gf τ++L)[N+2]?=L[2]?:=h.g2 τ L
theorem dX.h3(τ:bt)(L:List aa):(Gf τ++L)[N+3]?=L[3]?:=h.g3 τ L
theorem dX.s0(τ:bt)(L:List aa)(x:aa):(Gf τ++L).set N x=Gf τ++L.set 0 x:=by have:=vk (Gf τ) L 0 x;rwa [h.len]at this
theorem dX.s1(τ:bt)(L:List aa)(x:aa):(Gf τ++L).set (N+1) x=Gf τ++L.set 1 x:=by have:=vk (Gf τ) L 1 x;rwa [h.len]at this
theorem dX.s2(τ:bt)(L:List aa)(x:aa):(Gf τ++L).set (N+1+1) x=Gf τ++L.set 2 x:=by have:=vk (Gf τ) L 2 x;rwa [h.len]at this
theorem dX.s3(τ:bt)(L:List aa)(x:aa):(Gf τ++L).set (N+1+1+1) x=Gf τ++L.set 3 x:=by have:=vk (Gf τ) L 3 x;rwa [h.len]at this
theorem dX.t2(τ:bt)(L:List aa)(x:aa):(Gf τ++L).set (N+2) x=Gf τ++L.set 2 x:=h.s2 τ L x
theorem dX.t3(τ:bt)(L:List aa)(x:aa):(Gf τ++L).set (N+3) x=Gf τ++L.set 3 x:=h.s3 τ L x
end
theorem anI(m:Nat)(τ:bt):eV m (yo τ):=by
 intro a ha;simp only[SL,S4,or_false]at ha;rcases ha with rfl|rfl|rfl
 ·rw[x7];trivial
 ·exact .val _
 ·exact .val _
theorem arq(H:List aa):dX (λτ=>H++[yo τ]) H.length (H.length+1)where
 len:=λτ=>by simp
 get:=λτ=>by simp
 set:=λτ τ'=>by simp
 ok:=λm τ τ' hk z hz=>by
  rcases SS.1 hz with hz|hz
  ·exact hk z (Ti _ hz)
  ·rw[S9.1 hz];exact anI _ _
structure bt.Ok (τ:bt)(b:Int):Prop where
 g0:0<=τ.g
 g:τ.g<=b
 len:τ.ay.length<=2^50
section
variable {lv:Bool}{H:List aa}{k kp:AV->List aa->Prop}{Gf:bt->List aa}{t N:Nat}{τ:bt}{b:Int}
theorem ahM{ay:List Int}(hk:k (.op H.length 0) (H++[yo ⟨ay,0,7640891576956012809⟩])):bf lv SC 16 H [ba ay] k kp:=by
 refine bH (rs:=[.tmp 2]) (nt:=6) Tryz.f16 λhH hA=> ?_;simp only[br,SW];refine aj ?_;refine aj ?_;refine aZ ?_;exact bW hk
theorem bt.Ok.tick(h:τ.Ok b):(tick τ).Ok (b+1):=⟨by have:=h.g0;show 0<=τ.g+1;omega,by have:=h.g;show τ.g+1<=b+1;omega,h.len⟩
theorem bt.Ok.mono{b':Int}(h:τ.Ok b)(hb:b<=b'):τ.Ok b':=⟨h.g0,by have:=h.g;omega,h.len⟩
theorem ah5(hT:dX Gf t N)(hτ:τ.Ok b)(hb:b<2^60)(hk:k (.val (.int .u64 (ws τ))) (Gf (tick τ))):bf lv SC 55 (Gf τ) [.op t 0] k kp:=by
 obtain⟨ay,g,s⟩:=τ;obtain⟨oo,hgb,RL⟩:=hτ;simp only at oo hgb RL;refine bH (rs:=[.tmp 2]) (nt:=76) Tryz.f55 λhH hA=> ?_;simp only[br,SW];have hg:∀τ,(Gf τ)[t]?=some (.cells [.sl τ.ay.length (τ.ay.map iv) .shut,.val (.int .i64 τ.g),.val (.int .u64 τ.s)] 73):=hT.get;have hs:∀τ (C8:List Int) g' s',(Gf τ).set t (.cells [.sl C8.length (C8.map iv) .shut,.val (.int .i64 g'),.val (.int .u64 s')] 73)=Gf ⟨C8,g',s'⟩:=λτ C8 g' s'=>hT.set τ ⟨C8,g',s'⟩;obtain⟨n,rfl⟩:∃n:Nat,g=n:=⟨g.toNat,by omega⟩;have hw:SF.wrap ((n:Int)+1)=n+1:=bG _ (by omega);refine aj ?_;refine ak ?_;simp only[seval,hg];refine dT 9 ?_;simp only[seval,hg];refine aD ?_;refine⟨λh=> ?_,λh=> ?_⟩
 ·have iZ:n<ay.length:=by simpa using h
  obtain⟨x,hx⟩:=bX iZ;refine dT 13 ?_;simp only[seval,hg,eJ hx,jp iZ,Bb];refine ak ?_;simp only[seval,hg,hw,hs];refine ak ?_;simp only[seval,hg,hs];refine dT 11 ?_;simp only[seval,hg,hs,Ba,Bb];refine ak ?_;simp only[seval,hg];refine ak ?_;simp only[seval,Ba,Bb];refine aZ ?_;refine bW ?_;unfold ws tick NB at hk;simp only[VA,hx]at hk;exact hk
 ·have iZ:¬n<ay.length:=by simpa using h
  have hx:ay[n]?=none:=by rw[Ut];omega
  refine aN ?_;refine ak ?_;simp only[seval,hg,hw,hs];refine ak ?_;simp only[seval,hg,hs];refine dT 11 ?_;simp only[seval,hg,hs,Ba,Bb];refine ak ?_;simp only[seval,hg];refine ak ?_;simp only[seval,Ba,Bb];refine aZ ?_;refine bW ?_;unfold ws tick NB at hk;simp only[VA,hx]at hk;exact hk
theorem sD{n:Int}(hT:dX Gf t N)(hτ:τ.Ok b)(hb:b<2^60)(hn:n<2^60)(hk:k (iv (dE τ n)) (Gf (tick τ))):bf lv SC 25 (Gf τ) [.op t 0,iv n] k kp:=by
 refine bH (rs:=[.tmp 4]) (nt:=16) Tryz.f25 λhH hA=> ?_;simp only[br,SW];refine aj ?_;refine aj ?_;refine aK ((ah5 hT hτ hb ?_));(try simp only[seval]);refine aj ?_;refine aD ?_;refine⟨λh=> ?_,λh=> ?_⟩
 ·have h:n<1:=by simpa using h
  refine aj ?_;refine aZ ?_;rw[dE,if_pos h]at hk;exact bW hk
 ·have h:¬n<1:=by simpa using h
  have ho:=abr (TB.wrap ((tick τ).s* 10723151780598845931));have bN:TB.wrap n=n:=adn n (by omega) (by omega);have g_:TB.wrap (n+1)=n+1:=adn _ (by omega) (by omega);have ox:n+1≠0:=by omega
  have hr:=mW τ n;rw[dE,if_neg h]at hk hr;have v_:SF.wrap ((ws τ).tmod (n+1))=(ws τ).tmod (n+1):=bG _ (by omega);refine aN ?_;refine ak ?_;simp only[seval,aev,bN,g_,v_,ox];refine aZ ?_;exact bW hk
theorem ahR{lo hi:Int}(hT:dX Gf t N)(hτ:τ.Ok b)(hb:b<2^60)(oX:0<=lo/\lo<2^20)(Fo: -1<=hi/\hi<2^20)(hk:k (iv (Dz τ lo hi)) (Gf (tick τ))):bf lv SC 23 (Gf τ) [.op t 0,iv lo,iv hi] k kp:=by
 refine bH (rs:=[.tmp 6]) (nt:=14) Tryz.f23 λhH hA=> ?_;simp only[br,SW];have bN:SF.wrap (hi-lo)=hi-lo:=bG _ (by omega);have hr:=mW τ (hi-lo);have g_:SF.wrap (lo+dE τ (hi-lo))=lo+dE τ (hi-lo):=bG _ (by omega);refine aj ?_;refine ak ?_;simp only[seval,bN];refine aK ((sD hT hτ hb (by omega) ?_));(try simp only[seval,g_]);refine aZ ?_;exact bW hk
theorem PU{n:Int}(hT:dX Gf t N)(hτ:τ.Ok b)(hb:b<2^60)(hn:0<=n/\n<2^20)(hk:k (bv (apd τ n)) (Gf (tick τ))):bf lv SC 46 (Gf τ) [.op t 0,iv n] k kp:=by
 refine bH (rs:=[.tmp 4]) (nt:=10) Tryz.f46 λhH hA=> ?_;simp only[br,SW];have bN:SF.wrap (n-1)=n-1:=bG _ (by omega);refine aj ?_;refine ak ?_;simp only[seval,bN];refine aK ((sD hT hτ hb (by omega) ?_));(try simp only[seval]);refine aZ ?_;exact bW hk
end
theorem uO{α:Type}{xs:List α}{i:Nat}{x:α}(h:xs[i]?=some x):x∈xs:=Tf h
def vp (xs:List Int)(n:Int):Int:=if n∈xs then(xs.idxOf n:Int)else -1
theorem aag{n:Int}:∀{xs:List Int}{i:Nat},xs[i]?=some n->n∉xs.take i->xs.idxOf n=i
 |[],i,h,_=>by cases h
 |x::xs,0,h,_=>by cases h;simp
 |x::xs,i+1,h,hn=>by
  rw[U8,SL,not_or]at hn;have e:(x==n)=false:=beq_eq_false_iff_ne.2 λe=>hn.1 e.symm;rw[List.idxOf_cons,e,cond_false,aag (by simpa using h) hn.2]
theorem afd{xs:List Int}{n:Int}{i:Nat}(h:xs[i]?=some n)(hn:n∉xs.take i):vp xs n=i:=by
 rw[vp,if_pos (uO h),aag h hn]
theorem Ia(xs:List Int)(n:Int):(0<=vp xs n<->n∈xs)/\(∀i:Nat,vp xs n=i->xs[i]?=some n)/\ -1<=vp xs n:=by
 unfold vp;split
 ·rename_i h;refine⟨⟨λ_=>h,λ_=>by omega⟩,λi hi=> ?_,by omega⟩;obtain rfl:xs.idxOf n=i:=by omega
  have hlt:=List.idxOf_lt_length_of_mem h;rw[SQ hlt,List.getElem_idxOf hlt]
 ·rename_i h;exact⟨⟨λe=>by omega,λe=>absurd e h⟩,λi hi=>by omega,by omega⟩
section
variable {lv:Bool}{H:List aa}{k kp:AV->List aa->Prop}
theorem ahV{xs:List Int}{n:Int}{e:End}(hl:xs.length<2^30)(hk:k (iv (vp xs n)) H):bf lv SC 27 H [.sl xs.length (xs.map iv) e,iv n] k kp:=by
 refine bH (rs:=[.tmp 4]) (nt:=19) Tryz.f27 λhH hA=> ?_;simp only[br,SW];refine aj ?_;refine aj ?_;refine cy ?_;refine pE xs.length (λi:Nat=>[(5,iv i)]) (λ_=>_) (λi=>n∉xs.take i) (by simp) (λbU cS i cM hi R hR=> ?_);clear bU cS;refine aj ?_;refine aD ?_;refine⟨λh=> ?_,λh=> ?_⟩
 ·have bB:i<xs.length:=by omega
  obtain⟨y,hy⟩:=bX bB;have bN:SF.wrap ((i:Int)+1)=i+1:=bG _ (by omega);refine aN ?_;refine ak ?_;simp only[seval,eJ hy,jp bB];refine aD ?_;refine⟨λh2=> ?_,λh2=> ?_⟩
  ·have h2:y=n:=(by simpa using h2);subst h2;refine aj ?_;refine aZ ?_;rw[afd hy hi]at hk;exact bW hk
  ·have h2:¬y=n:=(by simpa using h2);refine aN ?_;refine ak ?_;simp only[seval,bN];refine hR _ ⟨bB,λhm=> ?_,dq⟩;obtain⟨hj,hle⟩:=SM.1 hy;rw[Wc hj,hle]at hm;rcases SS.1 hm with hm|hm
   ·exact hi hm
   ·exact h2 (S9.1 hm).symm
 ·have pX:i=xs.length:=by omega
  subst pX;rw[TH]at hi;refine bZ ?_;refine aj ?_;refine aZ ?_;rw[vp,if_neg hi]at hk;exact bW hk
theorem PM{xs:List Int}{n:Int}{e:End}(hl:xs.length<2^30)(hk:∀v:Int,(0<=v<->n∈xs)->(∀i:Nat,v=i->xs[i]?=some n)-> -1<=v->k (iv v) H):bf lv SC 27 H [.sl xs.length (xs.map iv) e,iv n] k kp:=ahV hl (hk _ (Ia xs n).1 (Ia xs n).2.1 (Ia xs n).2.2)
inductive so:List AV->List AV->Prop
 |nil:so [] []
 |cons {a b:AV} {l m:List AV} (h:Wk a b) (t:so l m):so (a::l) (b::m)
theorem so.len{l m:List AV}(h:so l m):l.length=m.length:=by
 induction h with
 |nil=>rfl
 |cons _ _ ih=>simp[ih]
theorem so.at{l m:List AV}(h:so l m):∀(i:Nat)(a b:AV),m[i]?=some a->l[i]?=some b->Wk b a:=by
 induction h with
 |nil=>intro i a b h;simp at h
 |cons h _ ih=>
  intro i a b h1 h2
  match i with
  |0=>cases h1;cases h2;exact h
  |i+1=>exact ih i a b h1 h2
theorem Nz{l l':List AV}(h:so l l'):Wk (.agg l) (.agg l'):=λE v hd=>by
 cases hd with
 |agg hs h1=>
  refine .agg (by rw[hs,h.len]) λi x hx=> ?_;obtain⟨y,hy⟩:=bX (xs:=l) (i:=i) (by rw[h.len];exact eR hx);exact h.at i x y hx hy E _ (h1 i y hy)
theorem NA{n:Nat}{l l':List AV}{e:End}(hl:l.length=l'.length)(h:∀(i:Nat) a b,l'[i]?=some a->l[i]?=some b->Wk b a):Wk (.sl n l e) (.sl n l' e):=λE v hd=>by
 cases hd with
 |sl b o cap f hc he h1 h2=>
  refine .sl b o cap f hc he (λi hi=>h1 i (by omega)) λi x hx=> ?_;obtain⟨y,hy⟩:=bX (xs:=l) (i:=i) (by have:=eR hx;omega);exact h i x y hx hy E _ (h2 i y hy)
 |nil he=>
  have:l'=[]:=List.eq_nil_of_length_eq_zero hl.symm;subst this;exact .nil he
theorem Mr:(1<=2^24)=True:=by simp
theorem KJ{H L:List aa}(h:bP H)(hL:∀z∈L,∀n,eV n z):bP (H++L):=λz hz=>by
 rcases SS.1 hz with h'|h'
 ·exact(h z h').mono (by simp)
 ·exact hL z h' _
theorem G0{base Vi Vn T:List (Nat×AV)}{H H':List aa}(G:List aa)(hk:sg T (Vi++base) Vn)(hv:∀p∈Vn,∃b,look T p.1=some b/\Wk b p.2)(az:bP H)(hlt:∀p∈Vn,Lt H.length p.2)(hG:H'=H++G):tR base Vi Vn H ⟨T,H'⟩:=⟨hk,hv,G,hG,.inr ⟨az,hlt⟩⟩
theorem ara{xs ys:List Int}{i:Nat}{x y:Int}(hx:xs[i]?=some x)(hy:ys[i]?=some y)(h:xs.take i=ys.take i)(e:x=y):xs.take (i+1)=ys.take (i+1):=by
 obtain⟨hj,rfl⟩:=SM.1 hx;obtain⟨hk,rfl⟩:=SM.1 hy;rw[Wc hj,Wc hk,h,e]
theorem yX{xs ys:List Int}{e e':End}(hx:xs.length<2^60)(hk:k (bv (decide (xs=ys))) H):bf lv SC 20 H [.sl xs.length (xs.map iv) e,.sl ys.length (ys.map iv) e'] k kp:=by
 refine bH (rs:=[.tmp 4]) (nt:=26) Tryz.f20 λhH hA=> ?_;simp only[br,SW];refine aj ?_;refine aj ?_;refine aD ?_;refine⟨λh=> ?_,λh=> ?_⟩
 ·have h:xs≠ys:=λe=>by subst e;simp at h
  refine aj ?_;refine aZ ?_;rw[decide_eq_false h]at hk;exact bW hk
 ·have h:xs.length=ys.length:=by
   have h:(xs.length:Int)=ys.length:=(by simpa using h);omega
  refine aN ?_;refine aj ?_;refine cy ?_;refine pE xs.length (λi:Nat=>[(5,iv i)]) (λ_=>_) (λi=>xs.take i=ys.take i) (by simp) (λbU cS i cM hi R hR=> ?_);refine aj ?_;refine aD ?_;refine⟨λh2=> ?_,λh2=> ?_⟩
  ·have hlt:i<xs.length:=(by omega);obtain⟨x,CJ⟩:=bX hlt;obtain⟨y,fQ⟩:=bX (xs:=ys) (i:=i) (by omega);refine aN ?_;refine cy ?_;refine dT 8 ?_;simp only[seval,eJ CJ,eJ fQ,jp hlt,jp (eR fQ)];refine aD ?_;refine⟨λh3=> ?_,λh3=> ?_⟩
   ·have h3:xs≠ys:=λe=>(by subst e;rw[CJ]at fQ;cases fQ;simp at h3);refine aj ?_;refine aZ ?_;rw[decide_eq_false h3]at hk;exact bW hk
   ·have h3:x=y:=(by simpa using h3);refine aN ?_;refine aj ?_;refine hR _ ⟨hlt,ara CJ fQ hi h3,?_⟩;rw[bG _ (by omega)];exact dq
  ·have pX:i=xs.length:=(by omega);refine bZ ?_;refine aj ?_;refine aZ ?_;have h3:xs=ys:=by
    rw[pX,TH]at hi;rw[hi,h,TH]
   rw[decide_eq_true h3]at hk;exact bW hk
end
def eU (x:ai)(deep:Int)(D:Kn):Prop:=∃(p:Nat)(js:List Nat),x.am=p/\js.Perm (SZ (p+1))/\nU x deep js D/\bI D
theorem kP(x:ai):∀a∈x.l,a.leaf=true:=λa ha=>by
 simp only[ai.l,SL,S4,or_false]at ha;rcases ha with rfl|rfl|rfl|rfl|rfl|rfl<;>rfl
section
variable {H:List aa}{k kp:AV->List aa->Prop}
theorem H_{lv:Bool}:NS lv H (.fn (.func 52) [] []) true:=λL k kp hk=>cI (ah2 hk)
theorem ahP{x:ai}(hx:x.Ok)(hm:H[0]?=some .main)(hk:∀D,eU x 0 D->k (.aJ [iv (if D.has then(D.aL.length:Int)else 0),iv 0]) H):bf true SC 21 H [x.av] k kp:=by
 refine bH (rs:=[.tmp 2,.tmp 3]) (nt:=19) Tryz.f21 λhH hA=> ?_;simp only[br,SW,ai.av];have hp:=hx.am;obtain⟨p,eG⟩:∃p:Nat,x.am=p:=⟨x.am.toNat,by omega⟩;have bS:x.l=[iv x.first,iv x.hours,iv x.am,dY x.seen,bp x.pieces,bp x.aB]:=rfl;have aT:∀(L:List aa),(H++L)[H.length]?=L[0]?:=λL=>aX H L 0;have bm:x.l.length=6:=rfl;have dZ:Uq 6 x.l=x.l:=rfl;refine aj ?_;refine ak ?_;simp only[seval,aT,bm,dZ];refine aK ((yY (x:=x) hx eG (fI hm) H_ (λh=>by cases h) λ_ js D L mp io jB bY sW hg=> ?_));have eF:eU x 0 D:=⟨p,js,eG,io,jB,bY⟩;have b8:=Kn.len bY mp;have eA:=uH D mp;obtain⟨B,hB⟩:∃B,B=H++[aa.cells x.l 26]++L:=⟨_,rfl⟩;rw[<- hB]at hg⊢;(try simp only[seval,ai.av,bm,b8]);refine⟨kP x,eA,?_⟩;have eY:∀(L':List aa)(n:Int),k (.aJ [iv n,iv 0]) H->cw H.length (B++L') (.aJ [iv n,iv 0]) k:=λL' n h=>by
  rw[hB,SD,SD];exact jr hH (Wk.refl _) (by simp[je,eI]) h
 have og:∀(L':List aa),(B++L')[B.length+1]?=L'[1]?:=λL'=>aX B L' 1;have pS:∀(L':List aa),(B++L')[mp]?=some (.obj (.map (D.aL.zipIdx.map eC).toArray D.aL.length)):=λL'=>fI hg;have dg:(D.l mp).drop 1=.mp mp::((D.l mp).drop 2):=rfl;have aI:=hk D eF;cases hh:D.has with
 |false=>
  have hE:ew D=11:=by rw[ew,hh];rfl
  rw[hh]at aI;refine ak ?_;simp only[seval,hE,show ((11:Int)==11)=true from rfl];refine aD ?_;refine aj ?_;refine aZ ?_;exact eY _ 0 aI
 |true=>
  have hE:ew D=0:=by rw[ew,hh];rfl
  rw[hh]at aI;refine ak ?_;simp only[seval,hE,show ((0:Int)==11)=false from rfl];refine aD ?_;refine aN ?_;refine ak ?_;simp only[seval,og,dg,pS];have aV:(D.aL.zipIdx.map eC).toArray.size=D.aL.length:=by simp
  rw[ad3 _ _ _ _ _ F.NU (pS _),aV];refine aZ ?_;exact eY _ _ aI
end
namespace Tk
def vM (some other:Bool):Int:=if some&&other then 3 else if some then 1 else 2
end Tk
open Go.Conc Go.Proofs Go.Gg.Tk
section
variable {lv:Bool}{H:List aa}{k kp:AV->List aa->Prop}
theorem ah7{D:Kn}{mp s q:Nat}(hD:bI D)(hs:s<3)(hq:q<4)(hk:k (iv (vM ((D.aU.getD s 0).testBit q) (D.aU.getD s 0!=2^q))) H):bf lv SC 60 H [.agg (D.l mp),.cZ 97 (.agg [iv s,iv q])] k kp:=by
 refine bH (rs:=[.tmp 4]) (nt:=65) Tryz.f60 λhH hA=> ?_;simp only[br,SW];have b8:=Kn.len hD mp;obtain⟨u,hu⟩:=bX (xs:=D.aU) (i:=s) (by rw[hD.aU];exact hs);have kG:D.aU.getD s 0=u:=by rw[SE,hu];rfl
 rw[kG]at hk;have lu:=hD.lT _ (Tf hu);have b3:(0<=(s:Int)/\(s:Int)<3)=True:=by simp;omega
 have aT:∀(L:List aa),(H++L)[H.length]?=L[0]?:=λL=>aX H L 0;have dg:∀(L:List aa),(H++L)[H.length+1]?=L[1]?:=λL=>aX H L 1;have xz:=Kn.Db hD (mp:=mp) hu;refine aj ?_;refine aj ?_;refine aj ?_;refine ak ?_;simp only[seval,F.alB];refine aD ?_;refine ak ?_;simp only[seval,F.aal];refine aD ?_;refine aj ?_;refine dT 18 ?_;simp only[seval,aT,dg,b3,xz];refine ii (bv (u.testBit q)) (cI (xc lu ⟨rfl,rfl⟩)) ?_;refine ii (wv (2^q)) (cI (ub (m:=0) (by decide) (show q<16 by omega) ⟨by rw[Nat.zero_or],rfl⟩)) ?_;have aE:((u:Int)!=((2^q:Nat):Int))=(u !=2^q):=by
  rw[UY,bne_iff_ne,bne_iff_ne];exact not_congr Int.ofNat_inj
 rw[show wv u=AV.val (.int .u16 (u:Int))from rfl,show wv (2^q)=AV.val (.int .u16 ((2^q:Nat):Int))from rfl,N3,aE];have fin:∀(L:List aa)(n:Int),vM (u.testBit q) (u !=2^q)=n->cw H.length (H++L) (iv n) k:=λL n h=>by rw[h]at hk;exact lE hH hk
 generalize u.testBit q=s1 at fin⊢;generalize(u !=2^q)=s2 at fin⊢;cases s1<;>cases s2
 all_goals
  refine aj ?_;refine cy ?_;refine cy ?_;refine cy ?_;refine aj ?_;refine aD ?_
 ·refine aN ?_;refine aj ?_;refine aD ?_;refine bZ ?_;refine aj ?_;refine aj ?_;refine bZ ?_;refine aj ?_;refine aZ ?_;exact fin _ 2 rfl
 ·refine aN ?_;refine aj ?_;refine aD ?_;refine bZ ?_;refine aj ?_;refine aj ?_;refine bZ ?_;refine aj ?_;refine aZ ?_;exact fin _ 2 rfl
 ·refine aN ?_;refine aj ?_;refine aD ?_;refine aN ?_;refine bZ ?_;refine aj ?_;refine bZ ?_;refine aj ?_;refine aZ ?_;exact fin _ 1 rfl
 ·refine bZ ?_;refine aj ?_;refine aj ?_;refine aj ?_;refine bZ ?_;refine aj ?_;refine aZ ?_;exact fin _ 3 rfl
theorem aoi{x:ai}{q:Nat}(hq:q<x.pieces.length):yd x [(q:Int)]=true:=by
 unfold yd;simp;omega
theorem ah6{x:ai}{s q ir ip is:Nat}(hx:x.Ok)(hs:s<x.aB.length)(hq:q<x.pieces.length)(hr:H[ir]?=some (.cells x.l 26))(h1:H[ip]?=some (.cells [iv q] 3))(h2:H[is]?=some (.cells [iv s] 3))(hk:k (bv true) H):bf lv SC 57 H [.op ir 0,.op ip 0,.op is 0] k kp:=by
 refine bH (rs:=[.tmp 3]) (nt:=18) Tryz.f57 λhH hA=> ?_;simp only[br,SW];have bS:x.l=[iv x.first,iv x.hours,iv x.am,dY x.seen,bp x.pieces,bp x.aB]:=rfl;have bm:x.l.length=6:=rfl;have dZ:Uq 6 x.l=x.l:=rfl;have aQ:=hx.eK;have aT:∀(L:List aa),(H++L)[H.length]?=L[0]?:=λL=>aX H L 0;have dg:∀(L:List aa),(H++L)[H.length+1]?=L[1]?:=λL=>aX H L 1;have az:=aoi hq;have hw:SF.wrap ((x.aB.length:Int)-1)=(x.aB.length:Int)-1:=bG _ (by omega);have cM:(decide ((s:Int)<0)||decide ((s:Int)>(x.aB.length:Int)-1))=false:=by simp;omega
 refine aj ?_;refine ak ?_;simp only[seval,z1,hr,h1,bm,dZ];(try refine⟨by decide,?_⟩);refine aK ((n4 (x:=x) (ns:=[(q:Int)]) (e:=.exact) ?_));(try simp only[seval]);refine aK ((I7 (x:=x) (ns:=[(q:Int)]) (e:=.exact) hx (by simp) (by rw[dg];rfl) (by rw[aT];rfl) ?_));(try simp only[seval,az,fI hr,fI h2,bS,bp,hw]);refine aK ((sE ?_));(try simp only[seval,cM]);refine aZ ?_;exact lE hH hk
theorem ahW{x:ai}{s q:Nat}(hx:x.Ok)(hs:s<x.aB.length)(hq:q<x.pieces.length)(hm:H[0]?=some .main)(hk:∀D,eU x 2 D->k (.aJ [iv (if D.has then vM ((D.aU.getD s 0).testBit q) (D.aU.getD s 0!=2^q)else 0),iv (ew D)]) H):bf true SC 28 H [x.av,iv s,iv q] k kp:=by
 refine bH (rs:=[.tmp 6,.tmp 7]) (nt:=27) Tryz.f28 λhH hA=> ?_;simp only[br,SW,ai.av];have hp:=hx.am;obtain⟨p,eG⟩:∃p:Nat,x.am=p:=⟨x.am.toNat,by omega⟩;have aT:∀(L:List aa),(H++L)[H.length]?=L[0]?:=λL=>aX H L 0;have dg:∀(L:List aa),(H++L)[H.length+1]?=L[1]?:=λL=>aX H L 1;have lg:∀(L:List aa),(H++L)[H.length+2]?=L[2]?:=λL=>aX H L 2;have bm:x.l.length=6:=rfl;have dZ:Uq 6 x.l=x.l:=rfl;refine aj ?_;refine ak ?_;simp only[seval,aT,bm,dZ,T8,UA,Uh,TP];refine aK ((yY (x:=x) (b:=true) hx eG (fI hm) (λL k kp hk=>cI (ah6 hx hs hq (by rw[SD,aT];rfl) (by rw[SD,lg];rfl) (by rw[SD,dg];rfl) hk)) (λh=>by cases h) λ_ js D L mp io jB bY sW hg=> ?_));have eF:eU x 2 D:=⟨p,js,eG,io,jB,bY⟩;have b8:=Kn.len bY mp;have eA:=uH D mp;obtain⟨Y,hY⟩:∃Y:List aa,Y=[aa.cells x.l 26,.cells [iv s] 3,.cells [iv q] 3]++L:=⟨_,rfl⟩;obtain⟨B,hB⟩:∃B,B=H++Y:=⟨_,rfl⟩;have sI:H++[aa.cells x.l 26,.cells [iv s] 3,.cells [iv q] 3]++L=B:=by rw[hB,hY,SD]
 have og:∀(L':List aa),(B++L')[B.length+1]?=L'[1]?:=λL'=>aX B L' 1;have hbs:∀(L':List aa),(B++L')[H.length+1]?=some (.cells [iv s] 3):=λL'=>by rw[hB,hY,SD,dg];rfl
 have hbq:∀(L':List aa),(B++L')[H.length+2]?=some (.cells [iv q] 3):=λL'=>by rw[hB,hY,SD,lg];rfl
 have aI:=hk D eF;have eY:∀(L':List aa)(n m:Int),k (.aJ [iv n,iv m]) H->cw H.length (B++L') (.aJ [iv n,iv m]) k:=λL' n m h=>by
  rw[hB,SD];exact jr hH (Wk.refl _) (by simp[je,eI]) h
 rw[sI];clear sI hg hB;(try simp only[seval,ai.av,bm,b8]);refine⟨kP x,eA,?_⟩;cases hh:D.has with
 |false=>
  have hE:ew D=11:=by rw[ew,hh];rfl
  rw[hE,hh]at aI;refine ak ?_;simp only[seval,hE,show ((11:Int)!=0)=true from rfl];refine aD ?_;refine aj ?_;refine aZ ?_;exact eY _ 0 11 aI
 |true=>
  have hE:ew D=0:=by rw[ew,hh];rfl
  rw[hE,hh]at aI;refine ak ?_;simp only[seval,hE,show ((0:Int)!=0)=false from rfl];refine aD ?_;refine aN ?_;refine ak ?_;simp only[seval,F.aal,og,hbs,hbq,b8];rw[SY (i:=28) (by rw[b8];exact SR _)];refine aK ((ah7 (s:=s) (q:=q) bY (by have:=hx.eK;omega) (by have:=hx.c9;omega) ?_));(try simp only[seval]);refine aZ ?_;exact eY _ _ 0 aI
end
theorem z2:gI (SG .i64 0) 2=[iv 0,iv 0]:=rfl
section
variable {H:List aa}{k kp:AV->List aa->Prop}
end
namespace Tk
structure gT where
 lo:Int
 hi:Int
 is:Bool
def gT.add (b:gT)(v:Int):gT:=if b.is then⟨min b.lo v,max b.hi v,true⟩else⟨v,v,true⟩
end Tk
def Tk.gT.l (b:gT):List AV:=[iv b.lo,iv b.hi,bv b.is]
section
variable {lv:Bool}{H:List aa}{k kp:AV->List aa->Prop}
theorem aic{b:gT}{v:Int}{i:Nat}(hi:H[i]?=some (.cells b.l 112))(hk:k (.aJ []) (H.set i (.cells (b.add v).l 112))):bf lv SC 74 H [.op i 0,iv v] k kp:=by
 refine bH (rs:=[]) (nt:=38) Tryz.f74 λhH hA=> ?_;simp only[br,SW];have bB:=eR hi;obtain⟨hp,e9⟩:∃hp:List AV->List aa,∀l,hp l=H.set i (.cells l 112):=⟨_,λ_=>rfl⟩;have h0:H=hp b.l:=by rw[e9];exact(qt hi).symm
 have hg:∀l,(hp l)[i]?=some (.cells l 112):=λl=>by rw[e9,UU,if_pos rfl,if_pos bB]
 have hs:∀l l',(hp l).set i (.cells l' 112)=hp l':=λl l'=>by rw[e9,e9,W8]
 have fin:∀(N:Nat)(l:List AV),l=(b.add v).l->cw N (hp l) (.aJ []) k:=λN l e=>by
  rw[e,e9];exact bW hk
 rw[h0];clear hH hA e9 h0 hi hk;refine ak ?_;simp only[seval,hg,gT.l];refine aD ?_;refine⟨λh=> ?_,λh=> ?_⟩
 ·have hb:b.is=false:=by simpa using h
  refine ak ?_;simp(maxSteps:=4000000) only[seval,hg,hs];refine qK [16,19] [0,1,2,3,4,5,6,7,8,9,10,11,12,13,14,15,16,17,18,19] [⟨0,false,[],[]⟩,⟨1,false,[],[([16],[16])]⟩,⟨2,false,[],[]⟩,⟨3,false,[],[]⟩,⟨4,false,[],[]⟩,⟨5,false,[],[]⟩,⟨6,false,[],[]⟩,⟨7,false,[],[]⟩,⟨8,false,[],[]⟩,⟨9,false,[],[]⟩,⟨10,false,[],[]⟩,⟨11,false,[],[]⟩,⟨12,false,[],[([16],[16])]⟩,⟨13,false,[],[([16],[16])]⟩,⟨14,false,[],[]⟩,⟨15,false,[],[]⟩,⟨16,true,[16],[]⟩,⟨17,false,[16],[]⟩,⟨18,false,[16],[]⟩,⟨19,true,[16,19],[]⟩] (λD=>bif isDone 19 D then hp [iv (min v v),iv (max v v),bv true]else bif isDone 16 D then hp [iv (min v v),iv v,bv true]else hp [iv v,iv v,bv true]) ?_;simp only[seval,hg,hs];have m1:(if v<v then v else v)=v:=by split<;>rfl
  have m2:min v v=v:=by omega
  have m3:max v v=v:=by omega
  rw[m1,m2,m3];exact⟨rfl,rfl,fin _ _ (by rw[gT.add,if_neg (by rw[hb];decide)];rfl)⟩
 ·have hb:b.is=true:=by simpa using h
  refine aN ?_;refine qK [16,19] [0,1,2,3,4,5,6,7,8,9,10,11,12,13,14,15,16,17,18,19] [⟨0,false,[],[]⟩,⟨1,false,[],[([16],[16])]⟩,⟨2,false,[],[]⟩,⟨3,false,[],[]⟩,⟨4,false,[],[]⟩,⟨5,false,[],[]⟩,⟨6,false,[],[]⟩,⟨7,false,[],[]⟩,⟨8,false,[],[]⟩,⟨9,false,[],[]⟩,⟨10,false,[],[]⟩,⟨11,false,[],[]⟩,⟨12,false,[],[([16],[16])]⟩,⟨13,false,[],[([16],[16])]⟩,⟨14,false,[],[]⟩,⟨15,false,[],[]⟩,⟨16,true,[16],[]⟩,⟨17,false,[16],[]⟩,⟨18,false,[16],[]⟩,⟨19,true,[16,19],[]⟩] (λD=>bif isDone 19 D then hp [iv (min b.lo v),iv (max b.hi v),bv b.is]else bif isDone 16 D then hp [iv (min b.lo v),iv b.hi,bv b.is]else hp [iv b.lo,iv b.hi,bv b.is]) ?_;simp only[seval,hg,hs];have m1:(if v<b.lo then v else b.lo)=min b.lo v:=by split<;>omega
  have m2:(if b.hi<v then v else b.hi)=max b.hi v:=by split<;>omega
  rw[m1,m2];exact⟨rfl,rfl,fin _ _ (by rw[gT.add,if_pos hb,hb];rfl)⟩
end
open Go.Conc Go.Proofs Go.Gg.Tk
namespace Tk
def vu (hour:Nat)(hs:List (List Int)):gT:=hs.foldl (λb h=>b.add (h.getD hour 0)) ⟨0,0,false⟩
end Tk
section
variable {lv:Bool}{H:List aa}{k kp:AV->List aa->Prop}
theorem aib{x:ai}{hour:Nat}{ih ir:Nat}(hh:(hour:Int)<=x.hours)(h1:H[ih]?=some (.cells [iv hour] 3))(hr:H[ir]?=some (.cells x.l 26))(hk:k (bv true) H):bf lv SC 73 H [.op ih 0,.op ir 0] k kp:=by
 refine bH (rs:=[.tmp 2]) (nt:=8) Tryz.f73 λhH hA=> ?_;simp only[br,SW];have bS:x.l=[iv x.first,iv x.hours,iv x.am,dY x.seen,bp x.pieces,bp x.aB]:=rfl;have cM:(decide ((hour:Int)<0)||decide ((hour:Int)>x.hours))=false:=by simp;omega
 refine aj ?_;refine ak ?_;simp only[seval,h1,hr,bS];refine aK ((sE ?_));(try simp only[seval,cM]);refine aZ ?_;exact bW hk
theorem ahY{x:ai}{hour:Nat}(hx:x.Ok)(hh:(hour:Int)<=x.hours)(hm:H[0]?=some .main)(hk:∀D,eU x 0 D->(D.has=false->k (.aJ [.agg [iv 0,iv 0],iv 11]) H)/\(D.has=true->∀hs:List (List Int),hs.Perm D.aL->k (.aJ [.agg [iv (vu hour hs).lo,iv (vu hour hs).hi],iv 0]) H)):bf true SC 36 H [x.av,iv hour] k kp:=by
 refine bH (rs:=[.cell 4 46,.tmp 5]) (nt:=41) Tryz.f36 λhH hA=> ?_;simp only[br,SW,ai.av];have hp:=hx.am;have Fq:=hx.hours;obtain⟨p,eG⟩:∃p:Nat,x.am=p:=⟨x.am.toNat,by omega⟩;have aT:∀(L:List aa),(H++L)[H.length]?=L[0]?:=λL=>aX H L 0;have dg:∀(L:List aa),(H++L)[H.length+1]?=L[1]?:=λL=>aX H L 1;have lg:∀(L:List aa),(H++L)[H.length+2]?=L[2]?:=λL=>aX H L 2;have fP:∀(L:List aa)(y:aa),(H++L).set (H.length+2) y=H++L.set 2 y:=λL y=>ec H L 2 y;have bm:x.l.length=6:=rfl;have dZ:Uq 6 x.l=x.l:=rfl;refine aj ?_;refine ak ?_;simp only[seval,aT,bm,dZ,T8,UA,Uh,TP];refine aK ((yY (x:=x) (b:=true) hx eG (fI hm) (λL k kp hk=>cI (aib hh (by rw[SD,dg];rfl) (by rw[SD,aT];rfl) hk)) (λh=>by cases h) λ_ js D L mp io jB bY sW hg=> ?_));have eF:eU x 0 D:=⟨p,js,eG,io,jB,bY⟩;have b8:=Kn.len bY mp;have eA:=uH D mp;obtain⟨gO,b_⟩:=hk D eF;obtain⟨Bf,n9⟩:∃Bf:List AV->List aa,∀l,Bf l=H++([aa.cells x.l 26,.cells [iv hour] 3,.cells l 46]++L):=⟨_,λ_=>rfl⟩;have sI:H++[aa.cells x.l 26,.cells [iv hour] 3,.cells [iv 0,iv 0] 46]++L=Bf [iv 0,iv 0]:=by rw[n9,SD]
 obtain⟨N,hN⟩:∃N,N=H.length+3+L.length:=⟨_,rfl⟩;have fJ:∀l,(Bf l).length=N:=λl=>by rw[n9,hN];simp;omega
 have b1:∀l (L':List aa),(Bf l++L')[H.length+1]?=some (.cells [iv hour] 3):=λl L'=>by rw[n9,SD,dg];rfl
 have b2:∀l (L':List aa),(Bf l++L')[H.length+2]?=some (.cells l 46):=λl L'=>by rw[n9,SD,lg];rfl
 have tW:∀l l' (L':List aa),(Bf l++L').set (H.length+2) (.cells l' 46)=Bf l'++L':=λl l' L'=>by rw[n9,SD,fP,n9];simp
 have bn:∀l (L':List aa)(j:Nat),(Bf l++L')[N+j]?=L'[j]?:=λl L' j=>by rw[<- fJ l,aX]
 have vv:∀l (L':List aa)(j:Nat)(y:aa),(Bf l++L').set (N+j) y=Bf l++L'.set j y:=λl L' j y=>by rw[<- fJ l,ec]
 rw[sI]at hg⊢;have eY:∀(l:List AV)(L':List aa)(a b:Int)(m:Int),k (.aJ [.agg [iv a,iv b],iv m]) H->cw H.length (Bf l++L') (.aJ [.agg [iv a,iv b],iv m]) k:=λl L' a b m h=>by
  rw[n9,SD];exact jr hH (Wk.refl _) (by simp[je,eI,tn]) h
 (try simp only[seval,ai.av,bm,b8,fJ]);refine⟨kP x,eA,?_⟩;cases gg:D.has with
 |false=>
  have hE:ew D=11:=by rw[ew,gg];rfl
  refine ak ?_;simp only[seval,hE,show ((11:Int)!=0)=true from rfl];refine aD ?_;refine ak ?_;simp only[seval,b2,tW];refine oN ?_;simp only[seval,b2];exact eY _ _ 0 0 11 (gO gg)
 |true=>
  have hE:ew D=0:=by rw[ew,gg];rfl
  refine ak ?_;simp only[seval,hE,show ((0:Int)!=0)=false from rfl];refine aD ?_;refine aN ?_;refine ak ?_;simp only[seval,fJ];refine ak ?_;simp only[seval,T8,UA,Uh,TP];have oS:(D.l mp).drop 1=.mp mp::((D.l mp).drop 2):=rfl;obtain⟨ts,dR⟩:∃ts,ts=D.aL.zipIdx:=⟨_,rfl⟩;obtain⟨ck,Ff⟩:∃ck,ck=D.aL.length:=⟨_,rfl⟩;have pS:∀l (L':List aa),(Bf l++L')[mp]?=some (.obj (.map (ts.map eC).toArray ck)):=λl L'=>by
   have h0:(Bf [iv 0,iv 0])[mp]?=some (setH D.aL):=hg;have aE:mp≠H.length+2:=λe=>by
    have:=b2 [iv 0,iv 0] [];rw[S0,<- e,h0]at this;cases this
   have h1:(Bf l)[mp]?=some (setH D.aL):=by
    have:=tW [iv 0,iv 0] l [];rw[S0,S0]at this;rw[<- this,T6 (λe=>aE e.symm)];exact h0
   rw[dR,Ff];exact fI h1
  have pP:∀y∈ts,y.2<ck:=λy hy=>by rw[dR]at hy;have:=List.snd_lt_add_of_mem_zipIdx hy;omega
  have Co:(ts.map (·.2)).Nodup:=by rw[dR,show (λy:List Int×Nat=>y.2)=Prod.snd from rfl,List.zipIdx_map_snd];exact List.nodup_range'
  have h4:∀y∈ts,y.1.length=4:=λy hy=>by rw[dR]at hy;exact bY.h4 _ (DL hy)
  have fD:=OO ts ck pP;have La:ts.map (·.1)=D.aL:=by rw[dR,show (λy:List Int×Nat=>y.1)=Prod.fst from rfl,List.zipIdx_map_fst]
  clear dR;refine ak ?_;simp only[seval,fJ,bn,oS,pS];obtain⟨jU,e9⟩:∃jU:gT->Array Nat->List aa,∀b sn,jU b sn=Bf [iv 0,iv 0]++[.cells x.l 76,.cells (D.l mp) 88,.cells b.l 112,.iter mp ck sn ck]:=⟨_,λ_ _=>rfl⟩;have p1:∀b sn (L':List aa),(jU b sn++L')[H.length+1]?=some (.cells [iv hour] 3):=λb sn L'=>by rw[e9,SD];exact b1 _ _
  have p2:∀b sn (L':List aa),(jU b sn++L')[N+2]?=some (.cells b.l 112):=λb sn L'=>by rw[e9,SD,bn];rfl
  have p3:∀b sn (L':List aa),(jU b sn++L')[N+3]?=some (.iter mp ck sn ck):=λb sn L'=>by rw[e9,SD,bn];rfl
  have p3':∀b sn,(jU b sn)[N+3]?=some (.iter mp ck sn ck):=λb sn=>by have:=p3 b sn [];rwa [S0]at this
  have p4:∀b sn (L':List aa),(jU b sn++L')[N+4]?=L'[0]?:=λb sn L'=>by rw[e9,SD,bn];rfl
  have pm:∀b sn (L':List aa),(jU b sn++L')[mp]?=some (.obj (.map (ts.map eC).toArray ck)):=λb sn L'=>by rw[e9,SD];exact pS _ _
  have MA:∀b sn,(jU b sn)[mp]?=some (.obj (.map (ts.map eC).toArray ck)):=λb sn=>by have:=pm b sn [];rwa [S0]at this
  have s2:∀b sn b' (L':List aa),(jU b sn++L').set (N+2) (.cells (gT.l b') 112)=jU b' sn++L':=λb sn b' L'=>by rw[e9,SD,vv,e9,SD];rfl
  have s3:∀b sn M_,(jU b sn).set (N+3) (.iter mp ck M_ ck)=jU b M_:=λb sn M_=>by rw[e9,vv,e9];rfl
  have pl:∀b sn,(jU b sn).length=N+4:=λb sn=>by rw[e9];simp[fJ]
  have aQ:Bf [AV.val (SG SF 0),AV.val (SG SF 0)]++[.cells x.l 76,.cells (D.l mp) 88,.cells [AV.val (SG SF 0),AV.val (SG SF 0),AV.val (Xb false)] 112,.iter mp ck #[] ck]=jU ⟨0,0,false⟩ #[]:=by rw[e9];rfl
  rw[aQ];have oV:hour<4:=by omega
  have b4:(0<=(hour:Int)/\(hour:Int)<4)=True:=by simp;omega
  have s46:∀b sn l,(jU b sn).set (H.length+2) (.cells l 46)=Bf l++[.cells x.l 76,.cells (D.l mp) 88,.cells b.l 112,.iter mp ck sn ck]:=λb sn l=>by rw[e9,tW]
  have p46:∀b sn,(jU b sn)[H.length+2]?=some (.cells [iv 0,iv 0] 46):=λb sn=>by rw[e9,b2]
  have p2':∀b sn,(jU b sn)[N+2]?=some (.cells (gT.l b) 112):=λb sn=>by have:=p2 b sn [];rwa [S0]at this
  refine cy ?_;refine yH (measure λvs:List (List Int×Nat)=>ts.length-vs.length).wf (λvs=>[]) (λvs=>jU (vu hour (vs.map (·.1))) (vs.map (·.2)).toArray) (λvs=>(vs.map (·.2)).Nodup/\∀y∈vs,y∈ts) [] (λ_ _=>rfl) (by simp) rfl (λ_ _=>by simp[pl]) ⟨by simp,by simp⟩ (λbU cS vs az R hR=> ?_);refine ak ?_;simp only[seval,p3',MA,s3];refine⟨fD.elim .inl (λh=> .inr (.inl h)),λe he hn=> ?_,λhs=> ?_⟩
  ·obtain⟨y,hy,rfl⟩:∃y∈ts,eC y=e:=(by simpa using he);refine aD ?_;refine aN ?_;refine cy ?_;have sH:=h4 y hy;have JR:(eC y).born=y.2:=rfl;have hlen:(y.1.map iv).length=4:=(by simp[sH]);have J4:UD 4 [AV.val (SG SF 0),AV.val (SG SF 0),AV.val (SG SF 0),AV.val (SG SF 0)]=[]:=rfl;obtain⟨w,hw⟩:=bX (xs:=y.1) (i:=hour) (by omega);have Ld:y.1.getD hour 0=w:=(by rw[SE,hw];rfl);have Li:y.2∉vs.map (·.2):=(by simpa[eC]using hn);have FJ:((vs.map (·.2)).toArray.push y.2)=((vs++[y]).map (·.2)).toArray:=(by simp);have ajC:(vu hour (vs.map (·.1))).add w=vu hour ((vs++[y]).map (·.1)):=by
    unfold vu;rw[TF,ZU];show _=gT.add _ (y.1.getD hour 0);rw[Ld]
   have sX:((vs++[y]).map (·.2)).Nodup/\∀z∈vs++[y],z∈ts:=by
    refine⟨?_,λz hz=> ?_⟩
    ·rw[TF,U5];refine⟨az.1,by simp,λa ha b hb=> ?_⟩;simp at hb;subst hb;intro e;subst e;exact Li ha
    ·rcases SS.1 hz with h|h
     ·exact az.2 z h
     ·rw[S9.1 h];exact hy
   have atg:vs.length<ts.length:=by
    have h1:(vs++[y]).Nodup:=C5 _ sX.1;have:=h1.length_le_of_subset sX.2;simp at this;omega
   have ry:ts.length-(vs++[y]).length<ts.length-vs.length:=(by simp;omega);have FD:∀b sn,bP (jU b sn):=λb sn z hz=>by
    have QI:bP (jU ⟨0,0,false⟩ #[]):=bU;rw[pl];rw[e9]at hz;have cM:∀z,z∈jU ⟨0,0,false⟩ #[]->eV (N+4) z:=λz hz=>by
     have:=QI z hz;rwa [pl]at this
    rcases SS.1 hz with h|h
    ·exact cM z (by rw[e9];exact Ti _ h)
    ·simp only[SL,S4,or_false]at h;rcases h with rfl|rfl|rfl|rfl
     ·exact cM _ (by rw[e9];simp)
     ·exact cM _ (by rw[e9];simp)
     ·intro a ha;simp only[gT.l,SL,S4,or_false]at ha;rcases ha with rfl|rfl|rfl<;>exact .val _
     ·show mp<N+4;have:=eR (MA ⟨0,0,false⟩ #[]);rwa [pl]at this
   refine ak ?_;simp only[seval,p3',MA,s3,pl,p4,JR,Array.back?_push,P7 Co hy,abn,sH,hlen,J4];refine ak ?_;simp only[seval,p1,p4,b4,kX hw];refine aK ((aic (b:=vu hour (vs.map (·.1))) (v:=w) (i:=N+2) (p2 _ _ _) ?_));rw[s2,ajC,FJ];(try simp only[seval]);refine hR _ ⟨vs++[y],ry,sX,?_⟩;exact abT (pf rfl rfl) (by simp only[seval]<;>simp[bz,Wk.refl]) (FD _ _) (by simp[eI])
  ·have nF:vs.Perm ts:=ab3 az.1 Co az.2 λy hy=>by
    have:=hs (eC y) (by simp;exact⟨y.1,y.2,hy,rfl⟩) (pP y hy);simpa[eC]using this
   have KR:(vs.map (·.1)).Perm D.aL:=by
    have:=nF.map (·.1);rw[La]at this;exact this
   have aI:=b_ gg _ KR;generalize Fa:vu hour (vs.map (·.1))=bv' at aI;refine aD ?_;refine bZ ?_;refine ak ?_;simp only[seval,p2',p46,s46,gT.l,Fa];refine oN ?_;simp only[seval,b2];exact eY _ _ _ _ 0 aI
end
open Go.Conc Go.Proofs Go.Gg.Tk
namespace Tk
end Tk
section
variable {lv:Bool}{H:List aa}{k kp:AV->List aa->Prop}
end
open Go.Conc Go.Proofs Go.Gg.Tk
namespace Tk
def uL (out n:Int):Int:=if 0<=n/\(out<0\/n<out)then n else out
def wi (l:List Int):Int:=l.foldl uL (-1)
def uc (aU:List Nat)(i:Nat):List Int:=(SZ i).flatMap λs=>if 1<(dM (aU.getD s 0) 0 16).length then[-1]else dM (aU.getD s 0) 0 16
theorem Qy(aU:List Nat)(i:Nat):uc aU (i+1)=uc aU i++(if 1<(dM (aU.getD i 0) 0 16).length then[-1]else dM (aU.getD i 0) 0 16):=by
 unfold uc;rw[Vk,VR];simp
theorem Qx(aU:List Nat):∀i,(uc aU i).length<=i
 |0=>by simp[uc]
 |i+1=>by
  have:=Qx aU i;rw[Qy,SO];split
  ·simp;omega
  ·omega
end Tk
theorem DC{a a' b b':AV}(h1:Wk a a')(h2:Wk b b'):Wk (.aJ [a,b]) (.aJ [a',b']):=λE v h=>by
 cases h with
 |aJ hs h=>
  refine .aJ hs λi x e=> ?_
  match i with
  |0=>cases e;exact h1 _ _ (h 0 a rfl)
  |1=>cases e;exact h2 _ _ (h 1 b rfl)
open Go.Conc Go.Proofs Go.Gg.Tk
section
variable {lv:Bool}{H:List aa}{k kp:AV->List aa->Prop}
theorem ahT{x:ai}(hx:x.Ok)(hm:H[0]?=some .main)(hk:∀D,eU x 2 D->(D.has=false->k (.aJ [ba [],iv 11]) H)/\(D.has=true->k (.aJ [ba (uc D.aU x.aB.length),iv 0]) H)):bf true SC 26 H [x.av] k kp:=by
 refine bH (rs:=[.tmp 2,.tmp 3]) (nt:=39) Tryz.f26 λhH hA=> ?_;simp only[br,SW,ai.av];have hp:=hx.am;have aQ:=hx.eK;obtain⟨p,eG⟩:∃p:Nat,x.am=p:=⟨x.am.toNat,by omega⟩;have bS:x.l=[iv x.first,iv x.hours,iv x.am,dY x.seen,bp x.pieces,bp x.aB]:=rfl;have aT:∀(L:List aa),(H++L)[H.length]?=L[0]?:=λL=>aX H L 0;have bm:x.l.length=6:=rfl;have dZ:Uq 6 x.l=x.l:=rfl;refine aj ?_;refine ak ?_;simp only[seval,aT,bm,dZ];refine aK ((yY (x:=x) hx eG (fI hm) H_ (λh=>by cases h) λ_ js D L mp io jB bY sW hg=> ?_));have eF:eU x 2 D:=⟨p,js,eG,io,jB,bY⟩;have b8:=Kn.len bY mp;have eA:=uH D mp;obtain⟨gO,b_⟩:=hk D eF;obtain⟨Y,hY⟩:∃Y:List aa,Y=[aa.cells x.l 26]++L:=⟨_,rfl⟩;obtain⟨B,hB⟩:∃B,B=H++Y:=⟨_,rfl⟩;have sI:H++[aa.cells x.l 26]++L=B:=by rw[hB,hY,SD]
 have zm:∀(L':List aa),(B++L')[H.length]?=some (.cells x.l 26):=λL'=>by rw[hB,hY,SD,aT];rfl
 have bn:∀(L':List aa)(j:Nat),(B++L')[B.length+j]?=L'[j]?:=λL' j=>aX B L' j;have vv:∀(L':List aa)(j:Nat)(y:aa),(B++L').set (B.length+j) y=B++L'.set j y:=λL' j y=>ec B L' j y;have eY:∀(L':List aa)(ns:List Int)(e:End)(m:Int),k (.aJ [ba ns,iv m]) H->cw H.length (B++L') (.aJ [.sl ns.length (ns.map iv) e,iv m]) k:=λL' ns e m h=>by
  rw[hB,SD];exact jr hH (DC (iP _ _ _) (Wk.refl _)) (by simp[je,eI,ba,tp]) h
 rw[sI];clear sI hg;(try simp only[seval,ai.av,bm,b8]);refine⟨kP x,eA,?_⟩;cases gg:D.has with
 |false=>
  have hE:ew D=11:=by rw[ew,gg];rfl
  refine ak ?_;simp only[seval,hE,show ((11:Int)!=0)=true from rfl];refine aD ?_;refine aj ?_;refine aZ ?_;exact eY _ [] .exact 11 (gO gg)
 |true=>
  have hE:ew D=0:=by rw[ew,gg];rfl
  refine ak ?_;simp only[seval,hE,show ((0:Int)!=0)=false from rfl];refine aD ?_;refine aN ?_;refine aj ?_
  (repeat apply gW);refine vq (t:=7) (sz:=1) (el:=3) (by simp only[seval]<;>rfl) ?_
  have uk:UD 5 x.l=[.sl x.aB.length (x.aB.flatMap aC.l) .shut]:=rfl;refine ak ?_;simp only[seval,zm,uk];have Bp:∀(L':List aa),(B++L')[B.length+1]?=L'[1]?:=λL'=>bn L' 1;have yJ:∀(L':List aa),(B++L')[B.length+2]?=L'[2]?:=λL'=>bn L' 2;have tW:∀(L':List aa)(y:aa),(B++L').set (B.length+2) y=B++L'.set 2 y:=λL' y=>vv L' 2 y;obtain⟨gl,oq⟩:∃gl:Nat->List Int,∀i,gl i=uc D.aU i:=⟨_,λ_=>rfl⟩;have Cd:gl 0=[]:=by rw[oq];rfl
  have Ki:∀i,(gl i).length<=i:=λi=>by rw[oq];exact Qx _ _
  refine cy ?_;refine gL x.aB.length (λi:Nat=>[(7,.sl (gl i).length ((gl i).map iv) (.opn (B.length+2))),(22,iv i)]) (λi=>B++[.cells x.l 76,.cells (D.l mp) 88,.tail (gl i).length 1 3]) (λi=>True) (λ_ _=>rfl) (by rw[Cd];simp only[seval];simp[bz,Wk.refl]) (by rw[Cd];rfl) (λ_ _ _=>by simp) trivial (λbU cS i cM _ R hR=> ?_);refine aj ?_;refine aD ?_;refine⟨λh=> ?_,λh=> ?_⟩
  ·have bB:i<x.aB.length:=(by omega);obtain⟨u,hu⟩:=bX (xs:=D.aU) (i:=i) (by rw[bY.aU];omega);have lu:=bY.lT _ (Tf hu);have b3:(0<=(i:Int)/\(i:Int)<3)=True:=(by simp;omega);have fK:SF.wrap ((i:Int)+1)=((i+1:Nat):Int):=(by rw[bG _ (by omega)];rfl);have xz:=Kn.Db bY (mp:=mp) hu;have da:gl (i+1)=gl i++(if 1<(dM u 0 16).length then[-1]else dM u 0 16):=by
    rw[oq,oq,Qy,SE,hu];rfl
   have RH:=Ki i;have iY:=L6 u 0 16;refine aN ?_;refine aj ?_;refine ak ?_;simp only[seval,Bp,b3,xz];refine aK ((EB lu (by decide) ?_));(try simp only[seval,ba]);refine aj ?_;refine aD ?_;refine⟨λhb=> ?_,λhb=> ?_⟩
   ·refine ak ?_;simp only[seval,z1];(try refine⟨by decide,?_⟩);refine ak ?_;simp only[seval,yJ,tW];refine⟨by omega,?_⟩;refine ak ?_;simp only[seval,fK];have og:1<(dM u 0 16).length:=(by have h2:(1:Int)<((dM u 0 16).length:Int):=(by simpa using hb);omega);rw[if_pos og]at da;refine hR _ ⟨bB,trivial,?_⟩;rw[da,TF,SO];exact dq
   ·refine aN ?_;refine ak ?_;simp only[seval,yJ,tW];refine⟨by omega,?_⟩;refine ak ?_;simp only[seval,fK];have og:¬1<(dM u 0 16).length:=(by have h2:((dM u 0 16).length:Int)<=1:=(by simpa using hb);omega);rw[if_neg og]at da;refine hR _ ⟨bB,trivial,?_⟩;rw[da,TF,SO];exact dq
  ·have dw:i=x.aB.length:=(by omega);subst dw;refine bZ ?_;refine aj ?_;refine aZ ?_;have aI:=b_ gg;rw[<- oq]at aI;exact eY _ _ _ 0 aI
theorem ah8{ns:List Int}{e:End}(i_:ns.length<=16)(hk:k (iv (wi ns)) H):bf lv SC 69 H [.sl ns.length (ns.map iv) e] k kp:=by
 refine bH (rs:=[.tmp 2]) (nt:=26) Tryz.f69 λhH hA=> ?_;simp only[br,SW];refine aj ?_;refine aj ?_;refine aj ?_;refine cy ?_;refine gL ns.length (λi:Nat=>[(3,iv (wi (ns.take i))),(8,iv i)]) (λ_=>_) (λi=>True) (λ_ _=>rfl) (by simp only[seval];simp[bz,Wk.refl];exact Wk.refl _) rfl (λ_ _ _=>rfl) trivial (λbU cS i cM _ R hR=> ?_);refine aj ?_;refine aD ?_;refine⟨λh=> ?_,λh=> ?_⟩
 ·have bB:i<ns.length:=by omega
  obtain⟨n,hn⟩:=bX bB;have fK:SF.wrap ((i:Int)+1)=((i+1:Nat):Int):=by rw[bG _ (by omega)];rfl
  have da:wi (ns.take (i+1))=uL (wi (ns.take i)) n:=by
   unfold wi;rw[VI,hn,ZU];rfl
  generalize wi (ns.take i)=o at da hR⊢;refine aN ?_;refine ak ?_;simp only[seval,eJ hn,jp bB];by_cases c1:0<=n
  ·have d1:decide (n>=0)=true:=decide_eq_true c1;by_cases c2:o<0
   ·have d2:decide (o<0)=true:=decide_eq_true c2;refine ak ?_;simp only[seval,d1,d2];refine aD ?_;refine aj ?_;refine ak ?_;simp only[seval,fK];rw[uL,if_pos ⟨c1,.inl c2⟩]at da;refine hR _ ⟨bB,trivial,?_⟩;rw[da];exact dq
   ·have d2:decide (o<0)=false:=decide_eq_false c2;by_cases c3:n<o
    ·have d3:decide (n<o)=true:=decide_eq_true c3;refine ak ?_;simp only[seval,d1,d2,d3];refine aD ?_;refine aj ?_;refine ak ?_;simp only[seval,fK];rw[uL,if_pos ⟨c1,.inr c3⟩]at da;refine hR _ ⟨bB,trivial,?_⟩;rw[da];exact dq
    ·have d3:decide (n<o)=false:=decide_eq_false c3;refine ak ?_;simp only[seval,d1,d2,d3];refine aD ?_;refine aN ?_;refine ak ?_;simp only[seval,fK];rw[uL,if_neg (λhc=>hc.2.elim c2 c3)]at da;refine hR _ ⟨bB,trivial,?_⟩;rw[da];exact dq
  ·have d1:decide (n>=0)=false:=decide_eq_false c1;(repeat apply gW);refine afn (by kernel_rfl) ?_;simp only[seval,d1];refine aD ?_;refine aN ?_;refine ak ?_;simp only[seval,fK];rw[uL,if_neg (λhc=>c1 hc.1)]at da;refine hR _ ⟨bB,trivial,?_⟩;rw[da];exact dq
 ·have:i=ns.length:=by omega
  subst this;refine bZ ?_;refine aj ?_;refine aZ ?_;rw[TH];exact bW hk
end
end Go.Gg
