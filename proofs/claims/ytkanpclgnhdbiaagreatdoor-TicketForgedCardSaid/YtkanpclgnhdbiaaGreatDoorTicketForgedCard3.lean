/- A part of the proof. -/
import Derived.Test.YtkanpclgnhdbiaaGreatDoorTicketForgedCard2
import Derived.Conc.CrowdStepC
import Derived.Conc.LeavingOf
import Derived.Conc.AtomicLaws
import Derived.Conc.AtomicLaws2
import Derived.Conc.MarkLaws
import Derived.Conc.SmallLaws
import Derived.Laws.LoneSync
import Derived.KernelRfl
import Derived.Test.YtkanpclgnhdbiaaGreatDoorProg
import Derived.Conc.TokenWalk
set_option linter.all false
set_option maxRecDepth 4000
set_option maxHeartbeats 4000000
open Array renaming all_eq_true_iff_forall_mem->UK,append_assoc->Xq,empty_append->Xp,ext'->VF,getD_eq_getD_getElem?->SH,getElem?_eq_getElem->SJ,getElem?_eq_some_iff->SS,getElem?_push->Xf,getElem?_setIfInBounds->Wo,getElem?_setIfInBounds_ne->SU,getElem?_setIfInBounds_self_of_lt->S_,getElem_mem->XR,isEmpty_empty->YV,mem_iff_getElem?->YE,replicate->TL,size->aa_
open BitVec renaming ofInt->Uh
open Bool renaming and_eq_true->Ti,eq_iff_iff->Va,false_or->Zu,not_eq_true'->TY,not_false->YC,not_true->ai',true_or->ae'
open Classical renaming byContradiction->Tm
open Eq renaming trans->VJ
open Function renaming comp_def->Yv
open Go renaming Addr->U5,CallKind->Xc,Code->T4,Deferred->UY,Event->Ur,Frame->Ua,FrameMode->U_,Func->YB,FuncId->TO,GStep->ZA,Goroutine->SG,IntKind->TW,Item->WT,Machine->ap_,MemOp->Wc,Oper->Tu,Operand->Th,Program->SI,ResultVar->UO,Trace->Um,Value->SP,World->Tp,mark->ac_,step->ab'
open Go.Conc renaming Deaf->UT,Deaf_other->at3,Good->WX,Knows->Wm,QuitsD->Y4,act?_of->ae_,casT_eq->ZZ,crowd_pick->ZU,deaf_succ->Z_,finishComm_recv->Yu,finishComm_send->ad',getElem?_stand->X6,heard_old->Wr,knows_own->Zb,lt_size_of_getElem?->TJ,mem_ofEvents->TM,mem_of_getElem?->XQ,offersAt_of_not_blocked->UV,offersAt_parked_send->ZC,offersAt_ph->Zl,runT_crowd_spawn->Z9,seen_none->Z8,served->T5,stepG_entry->ZB,stepG_same->Xb,stepG_value->at2,touch_of->UU,woken_run->Yh
open Go.Conc.QuitsD renaming status->ZD
open Go.ConcN renaming le_sumTo->WE,sumTo_congr->Vp
open Go.Event renaming mute->WH
open Go.Extern.Atomic renaming casT->WU,loadT->XX,storeT->XP,update->XO
open Go.Extern.Race renaming marked->VI,none_->W5
open Go.Extern.Sync renaming semacquire->WG,semrelease->XN
open Go.GStep renaming after->T1
open Go.Goroutine.mk renaming injEq->ad_
open Go.Instr renaming loadAt->Xz,sureAddr->Vb
open Go.IntKind renaming i64->SD,u32->ah_,u64->TA,wrap->Xa
open Go.MemAct renaming ofEvent->Ts
open Go.MemOp renaming ofEvents->Ta
open Go.Obj renaming deferred->aud
open Go.Op renaming intArith->auc
open Go.Operand renaming const->aub,tmp->as_
open Go.Proofs.Tryz renaming f77->XJ,prog->SA
open Go.Region renaming wanted->Tg
open Go.Result renaming ok->Yd
open Go.Sem renaming runT_eq->TB
open Go.Trace renaming g?->WB
open Go.Value renaming bool->W_,chan->XM,int->SF
open Go.World renaming cell?->Uz,frozen?->ZP,setChan->We
open Int renaming toNat_natCast->VP
open List renaming any_append->ZN,any_cons->YP,any_eq_true->Up,append_assoc->SC,append_nil->SO,cons_append->Vh,contains_eq_any_beq->Yl,contains_iff_mem->Y1,drop->T7,drop_eq_nil_of_le->TV,eq_nil_of_length_eq_zero->VD,ext_getElem?->Yk,findIdx?_eq_none_iff->Ya,findIdx?_eq_some_iff_getElem->Xs,flatMap_append->UX,foldl_append->ZM,foldl_cons->UZ,forall_mem_cons->Wp,getD_eq_getElem?_getD->SE,getElem?_append_left->SW,getElem?_append_right->S9,getElem?_drop->Uo,getElem?_eq_getElem->SY,getElem?_eq_none->Uv,getElem?_eq_some_iff->SL,getElem?_map->To,getElem?_range->Xx,getElem?_set->UQ,getElem?_set_ne->T6,getElem?_toArray->Vg,getElem_mem->Wu,getLast?_eq_some_getLast->XL,getLastD_eq_getLast?->Vl,getLast_mem->Zo,head?_append->WN,length_append->SN,length_cons->Ul,length_map->Tn,length_nil->UN,length_pos_iff->Vv,length_singleton->T8,mapM_cons->T_,mapM_nil->UD,mapM_toArray->XW,map_append->TD,map_cons->UW,mem_append->SR,mem_append_left->Tf,mem_append_right->S4,mem_cons->SK,mem_flatMap->S5,mem_iff_getElem?->UR,mem_map->Tl,mem_of_getElem?->Tc,mem_range->Tx,mem_replicate->Xw,mem_singleton->S8,mem_toArray->TK,nil_append->UJ,nodup_append->U7,nodup_nil->WM,nodup_range->XT,not_mem_nil->S0,range->SZ,range_succ->Vo,replicate->TH,set_append_left->US,set_cons_succ->UF,set_cons_zero->TZ,set_set->W6,take->Ui,take_add_one->VL,take_append_of_le_length->Tw,take_length->TG,take_of_length_le->SX,take_succ_eq_append_getElem->Vk
open List.cons renaming inj->Vz
open Nat renaming add_sub_cancel_left->TR,add_zero->UE,eq_zero_or_pos->UH,le_refl->SQ,le_trans->UM,lt_of_lt_of_le->Td,lt_succ_self->Ux,reduceAdd->SV,reduceEqDiff->Zw
open Option renaming bind_eq_bind->TP,bind_eq_some_iff->Te,getD_none->Vq,getD_some->S7,map_eq_some_iff->Tq,map_some->UP,pure_def->Uj
open Option.some renaming inj->VY,injEq->Tj
open Prod.mk renaming inj->WY,injEq->U2
namespace Go.Gg
open Go.Conc Go.ConcN
section
variable {P:SI}{n0:Nat}{W0:Tp}{V:View}{gs gs':Array SG}{w w':Tp}{sl:Option (Nat×Nat)}{t:Um}{K:Nat->GS}{Im:cw}{ic:Nat}{p:Phase}{st st':Option eg}
theorem OX{t:Um}{g i j:Nat}(hi:t.g? i=some g)(hj:t.g? j=some g)(h:i<=j):Before t i j:=by
 rcases Nat.eq_or_lt_of_le h with rfl|h
 ·exact .inl rfl
 ·obtain⟨a,ha,rfl⟩:=Tq.1 hi;obtain⟨b,hb,hg⟩:=Tq.1 hj;exact .inr (.single (.inl ⟨h,by simp[WB,ha,hb,hg]⟩))
theorem Inv.aey(h:Inv P n0 W0 V gs w t K Im ic (some p) st)(aG:p.recv=true){n:Nat}{gi:SG}(aM:gs[ic]?=some gi)(hK:K ic=.acq n)(jJ:ub P Im p.c p.Wg (UT t ic) gi):gB P n0 W0 V gs w sl t K Im ic (some p) st ic:=by
 obtain⟨s,hs,gp,iS,hm⟩:=h.mode aG;obtain⟨m1,m2,m3,m4,m5⟩:=hm.OC (.inr (by rw[hK];rfl));obtain⟨hd,bH,g',aQ,n',cH⟩:=jJ;have nF:∀e∈#[j9 (.acquire (dV p.Wg))],e=j9 (.acquire (dV p.Wg)):=λe he=>by simpa using he
 have Sx:g'.status=.running:=cS.running (λd g x=>x.2.1) cH;refine h.tW aG (k':=.look n') (s':=.got) gp aM (aQ w) (by rw[hd];exact cH) (by rw[hK];exact Gx Im) (λ_=>rfl) rfl (λj hj=>by rw[hK]at hj;cases hj) (.inl rfl) (λe he x hx=> ?_) (λe he=> ?_) (λe he a=> ?_) rfl (λ_ _ _=>rfl) rfl rfl rfl
  ?_ (.inl m1) ?_ (yp iS (by rw[hK];exact .inl (by simp[GS.c_])))
 ·rw[nF e he]at hx;cases hx
 ·rw[nF e he];exact h.low.2
 ·rw[nF e he];simp[j9,Ts]
 ·unfold Mode;have e1:sumTo gs.size (λi=>(upd K ic (.look n') i).cnt)=0:=by rw[lA K (.look n') GS.cnt (by rw[hK];rfl)];exact m4
  have e2:sumTo gs.size (λi=>(upd K ic (.look n') i).late)=0:=by rw[lA K (.look n') GS.late (by rw[hK];rfl)];exact m3
  simp only[e1,e2,bx];exact .inr (.inr (.inr (.inr (.inr (.inl ⟨m1,trivial,trivial,trivial,.inl rfl⟩)))))
 ·have hr:Rest p.Wg t K ic st:=h.out.2.2.1;rw[hs,m2]at hr;rw[ofEvents_one];refine hr.app (λidx a ha hx=> .inr ?_) (λidx a _ ⟨op,ay,_,hx⟩ _=> ?_)
  ·obtain⟨i,Kz,eT,hx⟩:=hx;have akI:=h.core.ti.norel;have own:t.g? idx=some ic->Wm (t++#[{g:=ic,fn:=gi.frame.fn,pos:=gi.frame.place,act:=.ofEvent (j9 (.acquire (dV p.Wg)))}]) ic idx:=λe=>by
    obtain⟨op,ho,pu⟩:=Tq.1 e;rw[<- pu];exact(Zb ho).app _
   rcases hx with hx|rfl|⟨r,rL,hle⟩
   ·exfalso;have aku:i<gs.size:=by
     obtain⟨op,ho,pu⟩:=Tq.1 Kz;rw[<- pu];exact h.core.ti.gs op (XQ ho)
    have gT:(K i).cnt=1:=by cases k_:K i<;>rw[k_]at hx<;>first|rfl|cases hx
    have hle:(K i).cnt<=sumTo gs.size λi=>(K i).cnt:=WE (f:=λi=>(K i).cnt) aku;omega
   ·exact own Kz
   ·exact aez rL.act rL.heard akI ⟨rfl,rfl⟩ hd (OX Kz rL.g hle)
  ·simp only[TK,SK,S0,or_false]at ay;subst ay;cases hx
theorem Rest.got{Wg:Nat}(hr:Rest Wg t K ic (some .got)){es:Array Ur}{fn:TO}{pos:String}{K':Nat->GS}:Rest Wg (t++Ta ic fn pos es) K' ic (some .got):=by
 refine hr.app (λidx a ha hx=> .inr (Knows.app _ hx)) (λidx a _ ⟨op,ay,cZ,_⟩ _=> .inr (.inr ?_));obtain⟨e,_,rfl⟩:=TM ay;exact Zb cZ
theorem Inv.amT(h:Inv P n0 W0 V gs w t K Im ic (some p) st)(aG:p.recv=true){n:Nat}{gi:SG}(aM:gs[ic]?=some gi)(hK:K ic=.look n)(jJ:HW P Im p.c (UT t ic) gi):gB P n0 W0 V gs w sl t K Im ic (some p) st ic:=by
 obtain⟨s,hs,gp,iS,hm⟩:=h.mode aG;obtain⟨m1,m2,m3,m4⟩:=hm.OD (.inl (by rw[hK];rfl));obtain⟨hd,bH,b,o,x,g',lM,aQ,n',cH⟩:=jJ;have fx:Sat ((K ic).view Im) w:=by have:=h.core.sat ic iS;rwa [show bE V Im K ic=(K ic).view Im by simp[bE];omega]at this
 have Kc:=fx.ab b o x (by rw[hK];exact lM);have hb:=fx.C7 (show ((K ic).view Im).ab b o=some x by rw[hK];exact lM);have nF:∀e∈(#[⟨.cell ⟨b,o,none⟩,false,false⟩]:Array Ur),e=⟨.cell ⟨b,o,none⟩,false,false⟩:=λe he=>by simpa using he
 have cO:=h.blind gp;refine h.tW aG (k':=.close n') (s':=.got) gp aM (aQ w Kc) (by rw[hd];exact cH) (by rw[hK];exact amD Im) (λ_=>rfl) rfl (λj hj=>by rw[hK]at hj;cases hj) (.inl rfl) (λe he y hy=> .inr (.inr ?_)) (λe he=> ?_) (λe he a=> ?_) rfl (λ_ _ _=>rfl) rfl rfl rfl
  ?_ (.inl m1) ?_ (yp iS (by rw[hK];exact .inl (by simp[GS.c_])))
 ·rw[nF e he]at hy;cases hy;refine⟨λdK=> ?_,.inr (by rw[hK];show Im b o≠none;rw[lM];simp),rfl⟩;have e1:b=p.Wg:=dK;have:=cO.2.2.2 o;rw[hK]at this;have e2:Im p.Wg o=none:=this;rw[<- e1,lM]at e2;cases e2
 ·rw[nF e he];exact hb
 ·rw[nF e he];simp[Ts]
 ·unfold Mode;have e1:sumTo gs.size (λi=>(upd K ic (.close n') i).cnt)=0:=by rw[lA K (.close n') GS.cnt (by rw[hK];rfl)];exact m4
  have e2:sumTo gs.size (λi=>(upd K ic (.close n') i).late)=0:=by rw[lA K (.close n') GS.late (by rw[hK];rfl)];exact m3
  simp only[e1,e2,bx];exact .inr (.inr (.inr (.inr (.inr (.inl ⟨m1,trivial,trivial,trivial,.inr rfl⟩)))))
 ·have hr:Rest p.Wg t K ic st:=h.out.2.2.1;rw[hs,m2]at hr;exact hr.got
theorem Inv.agp(h:Inv P n0 W0 V gs w t K Im ic (some p) st)(aG:p.recv=true){n:Nat}{gi:SG}(aM:gs[ic]?=some gi)(hK:K ic=.close n)(jJ:HU P p.c (UT t ic) gi):gB P n0 W0 V gs w sl t K Im ic (some p) st ic:=by
 obtain⟨s,hs,gp,iS,hm⟩:=h.mode aG;obtain⟨⟨nn,m1⟩,m2,m3,m4⟩:=hm.OD (.inr (by rw[hK];rfl));obtain⟨hd,bH,KY,g',aQ,q,mj⟩:=jJ;have lR:=aQ w nn m1;have fG:∀e∈(#[⟨.obj p.c,false,true⟩,⟨.obj p.c,true,true⟩]:Array Ur),e=⟨.obj p.c,false,true⟩\/e=⟨.obj p.c,true,true⟩:=λe he=>by simpa using he
 have K1:∀j,0<j->j<gs.size->j≠ic->(K j).idx=none:=λj _ hj _=>by
  have hle:(K j).cnt<=sumTo gs.size λi=>(K i).cnt:=WE (f:=λi=>(K i).cnt) hj;exact GS.aan (by omega)
 have KB:g'.status=.running\/g'.status=.finished:=ZD mj;have rB:p.c≠p.Wg:=h.phase.2.2.1;have Kd:=h.low.1;have eu:Ta ic gi.frame.fn gi.frame.place #[⟨.obj p.c,false,true⟩,⟨.obj p.c,true,true⟩]=#[{g:=ic,fn:=gi.frame.fn,pos:=gi.frame.place,act:=.ofEvent ⟨.obj p.c,false,true⟩},{g:=ic,fn:=gi.frame.fn,pos:=gi.frame.place,act:=.close p.c}]:=by simp[Ta,Ts]
 have g1:=rk (t:=t) (show (#[({g:=ic,fn:=gi.frame.fn,pos:=gi.frame.place,act:=.ofEvent ⟨.obj p.c,false,true⟩}:Wc),{g:=ic,fn:=gi.frame.fn,pos:=gi.frame.place,act:=.close p.c}]:Um)[1]?=some _ from rfl);have nJ:∀op∈(#[({g:=ic,fn:=gi.frame.fn,pos:=gi.frame.place,act:=.ofEvent ⟨.obj p.c,false,true⟩}:Wc),{g:=ic,fn:=gi.frame.fn,pos:=gi.frame.place,act:=.close p.c}]:Um),still op.act:=by
  intro op ay;simp only[TK,SK,S0,or_false]at ay;rcases ay with rfl|rfl<;>exact⟨by simp[Ts],by simp[Ts]⟩
 have Rm:∃n,({w with heap:=w.heap.setIfInBounds p.c (.chan 0 #[] true nn nn false)}:Tp).heap[p.c]?=some (.chan 0 #[] true n n false):=⟨nn,by simp[Kd]⟩;refine h.tW aG (k':=.gone q) (s':=.shut (t.size+1)) gp aM lR (by rw[hd];exact mj) (by rw[hK];exact Gy _) (λ_=>rfl) rfl (λj hj=>by rw[hK]at hj;cases hj) (.inl rfl) (λe he x hx=> .inl ?_) (λe he=> ?_) (λe he a=> ?_) (by simp) (λb hb _=>by simp[Wo,Ne.symm hb]) rfl rfl rfl
  ?_ (.inr ⟨K1,λg hg=>an9 gp hg KY KB Rm⟩) ?_ (yp iS (by rw[hK];exact .inl (by simp[GS.c_])))
 ·rcases fG e he with rfl|rfl
  ·cases hx;exact⟨rfl,rfl⟩
  ·cases hx
 ·rcases fG e he with rfl|rfl
  ·exact Kd
  ·exact Kd
 ·rcases fG e he with rfl|rfl<;>simp[Ts]
 ·unfold Mode;have e1:sumTo gs.size (λi=>(upd K ic (.gone q) i).cnt)=0:=by rw[lA K (.gone q) GS.cnt (by rw[hK];rfl)];exact m4
  have e2:sumTo gs.size (λi=>(upd K ic (.gone q) i).late)=0:=by rw[lA K (.gone q) GS.late (by rw[hK];rfl)];exact m3
  simp only[e1,e2,bx];obtain⟨n,hn⟩:=Rm;refine .inr (.inr (.inr (.inr (.inr (.inr ⟨⟨t.size+1,n,rfl,?_,?_,hn⟩,trivial,trivial,rfl⟩)))))
  ·rw[eu];exact ae_ g1
  ·rw[eu];exact heard_new (k:=1) rfl rfl (by rw[ur nJ (by simp)];exact hd)
 ·have hr:Rest p.Wg t K ic st:=h.out.2.2.1;rw[hs,m2]at hr;rw[eu];refine hr.app (λidx a ha hx=> .inr (.inr (Knows.hb_new hx (by omega) g1 rfl))) (λidx a hi ⟨op,ay,cZ,_⟩ _=> .inr (.inr ?_));have hlt:idx<t.size+2:=by have:=TJ cZ;simpa using this
  have pu:op.g=ic:=by
   simp only[TK,SK,S0,or_false]at ay;rcases ay with rfl|rfl<;>rfl
  exact OX (g:=ic) (by simp[WB,cZ,pu]) (by simp[WB,g1]) (by omega)
structure Et (P:SI)(n0:Nat)(W0:Tp)(V:View)(gs:Array SG)(w:Tp)(sl:Option (Nat×Nat))(t:Um)(Im:cw)(ic:Nat)(p:Phase)(st:Option eg)(g:SG)(i:Nat):Prop where
 intro::
 met:∃gs' w' ops K' j sp S v kU Ow,runT P (crowd gs w sl) i=(.next (crowd gs' w' sl),ops)/\gs'.size=gs.size/\kC gs' (T5 g (.tuple #[v,.bool true]))/\p.Ss[j]?=some (sp::S)/\sp v kU Ow/\(∀b,V.own b≠none->Ow b=none)/\(∀b o,V.own b≠none->kU b o≠none->V.ab b o≠none)/\
  (∃w,Sat V w/\(∀b o x,kU b o=some x->w.cell? ⟨b,o,none⟩=some x)/\∀b x,Ow b=some x->w.heap[b]?=some x)/\
  Inv P n0 W0 (nO V kU Ow (.recv p.c p.Wg (p.Ss.set j S))) gs' w' (t++ops) K' Im ic (some {p with Ss:=p.Ss.set j S}) st
theorem Inv.aqi(h:Inv P n0 W0 V gs w t K Im ic (some p) st)(aG:p.recv=true)(gG:V.deaf=0){g:SG}(hm:nZ gs g p.c){i j:Nat}{gi:SG}{hh h':Ht}{Vi V₁:View}{c Wg:Nat}{sp:Spec}{S:List Spec}{v z:SP}{B:Nat->Bool}(hi:0<i)(aM:gs[i]?=some gi)
  (hK:K i=.work j hh Vi) (hg:dR Vi V₁) (hr:V₁.role=.work c Wg (sp::S)) (hd:V₁.deaf=0) (aQ:stepG P false gi w=.comm gi #[scase c v z] true .send w #[])
  (x9:sp v V₁.ab (lZ B V₁)) (hk:lF P h' (lW B V₁ (.work c Wg S)) (T5 gi undef)):Et P n0 W0 V gs w sl t Im ic p st g i:=by
 have hlt:i<gs.size:=(SS.1 aM).1;have di:=h.is i gi hi aM;simp only[hK,GS.is]at di;obtain⟨bz,_,S',hS,ji⟩:=di;rw[hg.role,ji]at hr;cases hr;have gT:(K i).cnt=1:=by rw[hK];rfl
 obtain⟨⟨n,gJ⟩,lq⟩:=h.counted hi hlt gT;have eT:(i==0)=false:=by simp;omega
 obtain⟨g0,z0,h0,lg,iQ,mM⟩:=hm;have hp:partners (gs.setIfInBounds i ph) p.c false=[(0,0)]:=by
  have Fh:(gs.setIfInBounds i ph)[0]?=some (parked g0 #[rcase p.c z0] (.recv true)):=by rw[SU (by omega)];exact h0
  rw[partners_one Fh (λm x hm hx=> ?_),offersAt_parked_recv]
  ·simp
  ·rcases X6 gs i m x hx with⟨_,rfl⟩|⟨_,jK⟩
   ·exact Zl _ _
   ·exact abp (h.is m x (by omega) jK) _
 have bH:=crowd_send_meets (P:=P) (sl:=sl) (i:=i) aM (by rw[eT];exact aQ) gJ (by omega) h0 hp;rw[Yu,ad']at bH;have mm:(K i).view Im=Vi:=by rw[hK];rfl
 have aV:((gs.setIfInBounds 0 (T5 g0 (recvd true v true))).setIfInBounds i (T5 gi undef)).size=gs.size:=by simp
 have aT:UT t i=0:=by rw[bz,<- hg.deaf,hd]
 have CU:Sat V₁ w:=by
  have:=h.core.sat i hlt;rw[show bE V Im K i=(K i).view Im by simp[bE];omega,mm]at this;exact hg.sat w this
 have Lq:Sat V w:=by have:=h.core.sat 0 h.pos;rwa [show bE V Im K 0=V by simp[bE]]at this
 have uO:=h.met (gs':=(gs.setIfInBounds 0 (T5 g0 (recvd true v true))).setIfInBounds i (T5 gi undef)) (w':=w.setChan p.c 0 #[] false (n+1) (n+1) false) (gi:=gi) (h':=h') (V₁:=V₁) (S:=S) (sp:=sp) (B:=B) aG gG hi hlt (by rw[hK];rfl) (by rw[mm];exact hg) (by rw[hg.role,ji]) hd aT hS hk aV
  (by rw[S_ (by simpa using hlt)]) (λm hm iT=>by rw[SU (Ne.symm hm),SU (by omega)])
  (u:=Ta i gi.frame.fn gi.frame.place #[]++#[{g:=i,fn:=gi.frame.fn,pos:=gi.frame.place,act:=.send p.c n},{g:=0,fn:=g0.frame.fn,pos:=g0.frame.place,act:=.recv p.c n 0},
    {g:=i,fn:=gi.frame.fn,pos:=gi.frame.place,act:=.sendDone p.c n},{g:=0,fn:=g0.frame.fn,pos:=g0.frame.place,act:=.recvDone p.c n}]) (s:=n) (by simp only[Ta,YV,if_true,Xp];rfl) ⟨rfl,rfl⟩ ⟨rfl,rfl⟩ ⟨rfl,rfl⟩ ⟨rfl,rfl⟩
  (by simp[We]) (λb hb=>by simp[We,Wo,Ne.symm hb]) ⟨n+1,by simp[We,h.low.1]⟩ rfl rfl rfl
 refine⟨_,_,_,_,j,sp,S,v,V₁.ab,lZ B V₁,bH,aV,⟨T5 g0 (recvd true v true),?_,rfl,?_,iQ,mM⟩,hS,x9,uO.1,uO.2.1,⟨w,Lq,CU.ab,λb x e=> ?_⟩,uO.2.2⟩
 ·rw[SU (by omega),S_ h.pos]
 ·simp only[T5,lg];rfl
 ·unfold lZ at e;split at e
  ·exact CU.own b x e
  ·cases e
theorem Inv.apn(h:Inv P n0 W0 V gs w t K Im ic (some p) st)(aG:p.recv=true)(gG:V.deaf=0){g:SG}{z:SP}(hm:kC gs g)(aQ:stepG P true g w=.comm g #[rcase p.c z] true (.recv true) w #[])
  (hw:∃i j h' V₁ V₂ g1 v z1,0<i/\i<gs.size/\K i=.nT j h' V₁ V₂ g1 v z1):Et P n0 W0 V gs w sl t Im ic p st g 0:=by
 obtain⟨g0,h0,hf0,lg,iQ,mM⟩:=hm;have lq:stepG P (0==0) g0 w=.comm g #[rcase p.c z] true (.recv true) w #[]:=by rw[<- aQ];exact Xb lg iQ mM w
 obtain⟨i0,j0,a0,a1,a2,a3,a4,a5,b0,b1,b2⟩:=hw;have ajY:(K i0).cnt=1:=by rw[b2];rfl
 obtain⟨⟨n,gJ⟩,F8⟩:=h.counted b0 b1 ajY;have tK:gs[i0]?=some gs[i0]:=SJ b1;have fD:∀j k,(j,k)∈partners (gs.setIfInBounds 0 ph) p.c true->k=0/\j≠0/\∃gj vj zj Nv,gs[j]?=some (parked gj #[scase p.c vj zj] Nv):=by
  intro j k hjk;obtain⟨x,hx,hk⟩:=mem_partners.1 hjk;rcases X6 gs 0 j x hx with⟨_,rfl⟩|⟨uJ,jK⟩
  ·rw[Zl]at hk;cases hk
  ·rcases GS.runs (h.is j x (by omega) jK)with hr|⟨hf,_⟩|⟨q,h',V1,V2,g1,v,z1,e⟩|⟨_,hb,ho⟩
   ·rw[UV (by rw[hr];simp)]at hk;cases hk
   ·rw[UV (by rw[hf];simp)]at hk;cases hk
   ·have:=h.is j x (by omega) jK;simp only[e,GS.is]at this;obtain⟨_,_,rfl,_⟩:=this;rw[ZC]at hk;simp at hk;exact⟨hk,uJ,g1,v,z1,.send,jK⟩
   ·have:offersAt x p.c true=[]:=(by unfold offersAt;simp[hb,ho]);rw[this]at hk;cases hk
 have aH:partners (gs.setIfInBounds 0 ph) p.c true≠[]:=by
  intro e;have fG:(i0,0)∈partners (gs.setIfInBounds 0 ph) p.c true:=by
   have:=h.is i0 _ b0 tK;simp only[b2,GS.is]at this;obtain⟨_,_,jh,_⟩:=this;refine mem_partners.2 ⟨gs[i0],by rw[SU (by omega)];exact tK,?_⟩;rw[jh,ZC];simp
  rw[e]at fG;cases fG
 obtain⟨i,gj,vj,zj,Nv,d,eT,aM,bH⟩:=crowd_recv_meets_some (P:=P) (sl:=sl) h0 lq gJ aH fD;have hi:0<i:=by omega
 have hlt:i<gs.size:=(SS.1 aM).1;obtain⟨j,h',V₁,V₂,g1,v,z1,hK⟩:∃j h' V₁ V₂ g1 v z1,K i=.nT j h' V₁ V₂ g1 v z1:=by
  rcases GS.runs (h.is i _ hi aM)with hr|⟨hf,_⟩|x|⟨_,_,ho⟩
  ·cases hr
  ·cases hf
  ·exact x
  ·cases ho
 have di:=h.is i _ hi aM;simp only[hK,GS.is]at di;obtain⟨bz,hd,jh,hk,sp,S,B,hS,ji,x9,zD⟩:=di;have efr:gj.frame=g1.frame/\gj.callers=g1.callers/\gj.dying=g1.dying/\vj=v/\zj=z1/\Nv=.send:=by
  simp only[parked,ad_,Tj,U2]at jh;obtain⟨e1,e2,_,e3,e4,e5⟩:=jh;simp[scase]at e4;exact⟨e1,e2,e3,e4.1,e4.2,e5⟩
 obtain⟨e1,e2,e3,rfl,rfl,rfl⟩:=efr;have esv:T5 gj undef=T5 g1 undef:=by simp[T5,e1,e2,e3]
 rw[ad',Yu,esv]at bH;subst zD;have mm:(K i).view Im=V₁:=by rw[hK];rfl
 have aV:((gs.setIfInBounds i (T5 g1 undef)).setIfInBounds 0 (T5 g (recvd true vj true))).size=gs.size:=by simp
 have CU:Sat V₁ w:=by
  have:=h.core.sat i hlt;rwa [show bE V Im K i=(K i).view Im by simp[bE];omega,mm]at this
 have Lq:Sat V w:=by have:=h.core.sat 0 h.pos;rwa [show bE V Im K 0=V by simp[bE]]at this
 have uO:=h.met (gs':=(gs.setIfInBounds i (T5 g1 undef)).setIfInBounds 0 (T5 g (recvd true vj true))) (w':=(w.at d).setChan p.c 0 #[] false (n+1) (n+1) false) (gi:=g1) (h':=h') (V₁:=V₁) (S:=S) (sp:=sp) (B:=B) aG gG hi hlt (by rw[hK];rfl) (by rw[mm];exact dR.refl _) ji hd bz hS hk aV
  (by rw[SU (by omega),S_ hlt]) (λm hm iT=>by rw[SU (by omega),SU (Ne.symm hm)])
  (u:=Ta 0 g0.frame.fn g0.frame.place #[]++#[{g:=i,fn:=gj.frame.fn,pos:=gj.frame.place,act:=.send p.c n},{g:=0,fn:=g.frame.fn,pos:=g.frame.place,act:=.recv p.c n 0},
    {g:=i,fn:=gj.frame.fn,pos:=gj.frame.place,act:=.sendDone p.c n},{g:=0,fn:=g.frame.fn,pos:=g.frame.place,act:=.recvDone p.c n}]) (s:=n) (by simp only[Ta,YV,if_true,Xp];rfl) ⟨rfl,rfl⟩ ⟨rfl,rfl⟩ ⟨rfl,rfl⟩ ⟨rfl,rfl⟩
  (by simp[We,World.at]) (λb hb=>by simp[We,World.at,Wo,Ne.symm hb]) ⟨n+1,by simp[We,World.at,h.low.1]⟩ rfl rfl rfl
 refine⟨_,_,_,_,j,sp,S,vj,V₁.ab,lZ B V₁,bH,aV,⟨T5 g (recvd true vj true),?_,rfl,rfl,rfl,rfl⟩,hS,x9,uO.1,uO.2.1,⟨w,Lq,CU.ab,λb x e=> ?_⟩,uO.2.2⟩
 ·rw[S_ (by simpa using h.pos)]
 ·unfold lZ at e;split at e
  ·exact CU.own b x e
  ·cases e
end
section
variable {P:SI}{n0:Nat}{W0:Tp}{V:View}{gs gs':Array SG}{w w':Tp}{sl:Option (Nat×Nat)}{t:Um}{K:Nat->GS}{Im:cw}{ic:Nat}{ph:Option Phase}{p:Phase}{st st':Option eg}
theorem Inv.tX(h:Inv P n0 W0 V gs w t K Im ic (some p) st){i n:Nat}{gi:SG}{Stop:Nat->SG->Prop}{mk:Nat->GS}(hi:0<i)(aM:gs[i]?=some gi)(hK:K i=mk n)(cH:cS P Stop n (UT t i) gi)
  (rI:∀n d g,cS P Stop n d g->(mk n).is P p.c p.Wg Im p.Ss d g) (dK:∀n m,(mk n).shape=(mk m).shape) (LH:∀n m,(mk n).view Im=(mk m).view Im) (Lm:∀n,qU (mk n).c_ (mk (n+1)).c_) (Af:∀d g,Stop d g->g.status=.running)
  (hgo:Stop (UT t i) gi->gB P n0 W0 V gs w sl t K Im ic (some p) st i):gB P n0 W0 V gs w sl t K Im ic (some p) st i:=by
 cases n with
 |zero=>exact hgo cH
 |succ n=>
  rcases cH with hs|⟨hr,g',es,hm,aQ,hs⟩
  ·exact hgo hs
  ·exact h.slip (k':=mk n) hi aM (aQ w) hm (rI _ _ _ hs) (λx=>by rw[cS.running Af hs]at x;cases x) (by rw[hK];exact dK _ _) (by rw[hK];exact LH _ _) (λ_=>cS.running Af hs) (by rw[hK];exact Lm n)
theorem Inv.acA(h:Inv P n0 W0 V gs w t K Im ic (some p) st){i n:Nat}{gi:SG}{Stop:Nat->SG->Prop}{mk:Nat->GS}(hi:0<i)(aM:gs[i]?=some gi)(hK:K i=mk n)(hW:∃x y,WgAt P p.Wg w x y)(cH:h_ P p.Wg Stop n (UT t i) gi)
  (rI:∀n d g,h_ P p.Wg Stop n d g->(mk n).is P p.c p.Wg Im p.Ss d g) (dK:∀n m,(mk n).shape=(mk m).shape) (LH:∀n m,(mk n).view Im=(mk m).view Im) (Lm:∀n,qU (mk n).c_ (mk (n+1)).c_) (Af:∀d g,Stop d g->g.status=.running)
  (hgo:Stop (UT t i) gi->gB P n0 W0 V gs w sl t K Im ic (some p) st i):gB P n0 W0 V gs w sl t K Im ic (some p) st i:=by
 cases n with
 |zero=>exact hgo cH
 |succ n=>
  rcases cH with hs|⟨hr,g',es,hm,aQ,hs⟩
  ·exact hgo hs
  ·exact h.slip (k':=mk n) hi aM (aQ w _ _ hW.choose_spec.choose_spec) hm (rI _ _ _ hs) (λx=>by rw[h_.running Af hs]at x;cases x) (by rw[hK];exact dK _ _) (by rw[hK];exact LH _ _) (λ_=>h_.running Af hs) (by rw[hK];exact Lm n)
theorem Inv.other(h:Inv P n0 W0 V gs w t K Im ic ph st){g:SG}(po:kC gs g\/∃p,ph=some p/\p.recv=true/\V.deaf=0/\nZ gs g p.c){i:Nat}{gi:SG}(hi:0<i)(aM:gs[i]?=some gi)(bH:gi.status=.running):
  gB P n0 W0 V gs w sl t K Im ic ph st i\/∃p,ph=some p/\Et P n0 W0 V gs w sl t Im ic p st g i/\nZ gs g p.c:=by
 have hlt:i<gs.size:=(SS.1 aM).1;have di:=h.out.1 i gi hi aM;have gone:∀q,K i=.gone q->Y4 P q (UT t i) gi->gB P n0 W0 V gs w sl t K Im ic ph st i:=by
  intro q hK hq;cases q with
  |zero=>rw[hq.1]at bH;cases bH
  |succ q=>
   rcases hq with⟨hf,_⟩|⟨_,g',es,hm,aQ,tD⟩
   ·rw[hf]at bH;cases bH
   ·refine h.slip (k':=.gone q) hi aM (aQ w) hm ?_ (λx=>by rcases tD.status with e|e<;>rw[e]at x<;>cases x) (by rw[hK];rfl) (by rw[hK];rfl) (λx=>by rw[hK]at x;rcases x with x|x<;>cases x) (by rw[hK];exact .inr ⟨rfl,.inr ⟨rfl,Ux _⟩⟩);cases ph with
    |none=>exact⟨q,rfl,tD⟩
    |some p=>exact tD
 cases ph with
 |none=>
  obtain⟨q,hK,hq⟩:=di;exact .inl (gone q hK hq)
 |some p=>
  have eY:(K i).is P p.c p.Wg Im p.Ss (UT t i) gi:=di;have qw:(K i).idx=none->(∀q,K i≠ .gone q)->p.recv=true:=λh1 h2=>by
   cases aG:p.recv with
   |true=>rfl
   |false=>
    have hx:=h.phase.2.2.2.2.2.2.2.2.2;rw[if_neg (by rw[aG];simp)]at hx;rcases hx.2.2.2.1 i hi hlt with x|⟨q,x⟩
    ·rw[h1]at x;cases x
    ·exact absurd x (h2 q)
  cases hK:K i with
  |gone q=>rw[hK]at eY;exact .inl (gone q hK eY)
  |nT j h' V1 V2 g0 v z=>
   rw[hK]at eY;obtain⟨_,_,rfl,_⟩:=eY;cases bH
  |work j hh Vi=>
   rw[hK]at eY;obtain⟨hd,LJ,S,hS,ji⟩:=eY;have mm:bE V Im K i=Vi:=(by simp[bE,hK,GS.view];omega);have fx:Sat Vi w:=(by have:=h.core.sat i hlt;rwa [mm]at this);cases LJ with
   |step G' W' E' V' hs hg h1 h2 h3=>
    exact .inl (h.adw hi aM hK (h1 w (hg.sat w fx)) (dg.rX hg (h2 w (hg.sat w fx))) (h3 w (hg.sat w fx)) (.mk _ w))
   |send c Wg sp S1 v z B hs hg hr du ho h1 h2 h3=>
    have er:mY.work p.c p.Wg S=.work c Wg (sp::S1):=(by rw[<- ji,<- hg.role,hr]);cases er;rcases po with hm|⟨p',z_,aG,gG,hm⟩
    ·exact .inl (h.ase hm hi aM hK hg hr du (h1 w (hg.sat w fx)) h2 h3)
    ·cases z_;exact .inr ⟨p,rfl,h.aqi aG gG hm hi aM hK hg hr du (h1 w (hg.sat w fx)) h2 h3,hm⟩
   |done c Wg hg hr du h1=>
    have er:mY.work p.c p.Wg S=.work c Wg []:=(by rw[<- ji,<- hg.role,hr]);cases er;refine .inl (h.release ?_ hi aM hK hg hr du h1);cases aG:p.recv with
    |true=>rfl
    |false=>
     have hx:=h.phase.2.2.2.2.2.2.2.2.2;rw[if_neg (by rw[aG];simp)]at hx;exact absurd rfl (hx.2.2.2.2.1 [] (Tc hS))
   |slip c Wg hs hg hr h1 h3=>
    have er:mY.work p.c p.Wg S=.work c Wg []:=(by rw[<- ji,<- hg.role,hr]);cases er;have aG:p.recv=true:=by
     cases aG:p.recv with
     |true=>rfl
     |false=>
      have hx:=h.phase.2.2.2.2.2.2.2.2.2;rw[if_neg (by rw[aG];simp)]at hx;exact absurd rfl (hx.2.2.2.2.1 [] (Tc hS))
    obtain⟨s,hW⟩:=h.agx aG hlt (by rw[hK];rfl);exact .inl (h.adw hi aM hK (h1 w s (hg.sat w fx) hW) (dg.rX hg (dg.idle (hg.sat w fx))) h3 (Bc.mk (λ_=>_) w))
  |add n=>
   rw[hK]at eY;have aG:=qw (by rw[hK];rfl) (λq=>by rw[hK];simp);exact .inl (h.tX (mk:=.add) hi aM hK eY (λ_ _ _ x=>x) (λ_ _=>rfl) (λ_ _=>rfl) (λn=> .inr ⟨rfl,.inr ⟨rfl,Ux _⟩⟩) (λ_ _ x=>x.2.1) (λhs=>h.aeD aG hi aM hK hs))
  |load n=>
   rw[hK]at eY;have aG:=qw (by rw[hK];rfl) (λq=>by rw[hK];simp);exact .inl (h.tX (mk:=.load) hi aM hK eY (λ_ _ _ x=>x) (λ_ _=>rfl) (λ_ _=>rfl) (λn=> .inr ⟨rfl,.inr ⟨rfl,Ux _⟩⟩) (λ_ _ x=>x.2.1) (λhs=>h.amS aG hi aM hK hs))
  |store n=>
   rw[hK]at eY;have aG:=qw (by rw[hK];rfl) (λq=>by rw[hK];simp);exact .inl (h.tX (mk:=.store) hi aM hK eY (λ_ _ _ x=>x) (λ_ _=>rfl) (λ_ _=>rfl) (λn=> .inr ⟨rfl,.inr ⟨rfl,Ux _⟩⟩) (λ_ _ x=>x.2.1) (λhs=>h.aq3 aG hi aM hK hs))
  |my n=>
   rw[hK]at eY;have aG:=qw (by rw[hK];rfl) (λq=>by rw[hK];simp);exact .inl (h.tX (mk:=.my) hi aM hK eY (λ_ _ _ x=>x) (λ_ _=>rfl) (λ_ _=>rfl) (λn=> .inr ⟨rfl,.inr ⟨rfl,Ux _⟩⟩) (λ_ _ x=>x.2.1) (λhs=>h.aqh aG hi aM hK hs))
  |head k n=>
   rw[hK]at eY;have aG:=qw (by rw[hK];rfl) (λq=>by rw[hK];simp);have fS:i=ic:=h.sh hi (by rw[hK];rfl);exact .inl (h.tX (mk:=.head k) hi aM hK eY (λ_ _ _ x=>x) (λ_ _=>rfl) (λ_ _=>rfl) (λn=> .inr ⟨rfl,.inr ⟨rfl,Ux _⟩⟩) (λ_ _ x=>Rv x) (λhs=>by subst fS;exact h.akk aG aM hK hs))
  |mc v n=>
   rw[hK]at eY;have aG:=qw (by rw[hK];rfl) (λq=>by rw[hK];simp);have fS:i=ic:=h.sh hi (by rw[hK];rfl);exact .inl (h.tX (mk:=.mc v) hi aM hK eY (λ_ _ _ x=>x) (λ_ _=>rfl) (λ_ _=>rfl) (λn=> .inr ⟨rfl,.inr ⟨rfl,Ux _⟩⟩) (λ_ _ x=>x.2.1) (λhs=>by subst fS;exact h.agd aG aM hK hs))
  |said n=>
   rw[hK]at eY;have aG:=qw (by rw[hK];rfl) (λq=>by rw[hK];simp);have fS:i=ic:=h.sh hi (by rw[hK];rfl);exact .inl (h.acA (mk:=.said) hi aM hK (h.Oo aG (n:=n) (.inr (by rw[<- fS];exact hK))) eY (λ_ _ _ x=>x) (λ_ _=>rfl) (λ_ _=>rfl) (λn=> .inr ⟨rfl,.inr ⟨rfl,Ux _⟩⟩) (λ_ _ x=>x.2.1) (λhs=>by subst fS;exact h.apY aG aM hK hs))
  |ig n=>
   rw[hK]at eY;have aG:=qw (by rw[hK];rfl) (λq=>by rw[hK];simp);have fS:i=ic:=h.sh hi (by rw[hK];rfl);rcases eY with eY|⟨_,g1,rfl,_⟩
   ·exact .inl (h.tX (mk:=.ig) hi aM hK eY (λ_ _ _ x=> .inl x) (λ_ _=>rfl) (λ_ _=>rfl) (λn=> .inr ⟨rfl,.inr ⟨rfl,Ux _⟩⟩) (λ_ _ x=>x.2.1) (λhs=>by subst fS;exact h.agy aG aM hK hs))
   ·cases bH
  |last n=>
   rw[hK]at eY;have aG:=qw (by rw[hK];rfl) (λq=>by rw[hK];simp);have fS:i=ic:=h.sh hi (by rw[hK];rfl);exact .inl (h.tX (mk:=.last) hi aM hK eY (λ_ _ _ x=>x) (λ_ _=>rfl) (λ_ _=>rfl) (λn=> .inr ⟨rfl,.inr ⟨rfl,Ux _⟩⟩) (λ_ _ x=>x.2.1) (λhs=>by subst fS;exact h.amc aG aM hK hs))
  |acq n=>
   rw[hK]at eY;have aG:=qw (by rw[hK];rfl) (λq=>by rw[hK];simp);have fS:i=ic:=h.sh hi (by rw[hK];rfl);exact .inl (h.acA (mk:=.acq) hi aM hK (h.Oo aG (n:=n) (.inl (by rw[<- fS];exact hK))) eY (λ_ _ _ x=>x) (λ_ _=>rfl) (λ_ _=>rfl) (λn=> .inr ⟨rfl,.inr ⟨rfl,Ux _⟩⟩) (λ_ _ x=>x.2.1) (λhs=>by subst fS;exact h.aey aG aM hK hs))
  |look n=>
   rw[hK]at eY;have aG:=qw (by rw[hK];rfl) (λq=>by rw[hK];simp);have fS:i=ic:=h.sh hi (by rw[hK];rfl);exact .inl (h.tX (mk:=.look) hi aM hK eY (λ_ _ _ x=>x) (λ_ _=>rfl) (λ_ _=>rfl) (λn=> .inr ⟨rfl,.inr ⟨rfl,Ux _⟩⟩) (λ_ _ x=>x.2.1) (λhs=>by subst fS;exact h.amT aG aM hK hs))
  |close n=>
   rw[hK]at eY;have aG:=qw (by rw[hK];rfl) (λq=>by rw[hK];simp);have fS:i=ic:=h.sh hi (by rw[hK];rfl);exact .inl (h.tX (mk:=.close) hi aM hK eY (λ_ _ _ x=>x) (λ_ _=>rfl) (λ_ _=>rfl) (λn=> .inr ⟨rfl,.inr ⟨rfl,Ux _⟩⟩) (λ_ _ x=>x.2.1) (λhs=>by subst fS;exact h.agp aG aM hK hs))
theorem Inv.awake(h:Inv P n0 W0 V gs w t K Im ic ph st){g:SG}(po:kC gs g\/∃p,ph=some p/\p.recv=true/\V.deaf=0/\nZ gs g p.c):∀x∈gs,awake x:=by
 intro x hx;obtain⟨i,hi⟩:=YE.1 hx;rcases UH i with rfl|eT
 ·rcases po with⟨g0,h0,h1,_⟩|⟨p,_,_,_,g0,z,h0,_⟩
  ·rw[hi]at h0;cases h0;intro s;rw[h1];simp
  ·rw[hi]at h0;cases h0;intro s;simp[parked]
 ·have di:=h.out.1 i x eT hi;intro s;cases ph with
  |none=>
   obtain⟨q,_,hq⟩:=di;rcases hq.status with e|e<;>rw[e]<;>simp
  |some p=>
   rcases GS.runs (show (K i).is P p.c p.Wg Im p.Ss (UT t i) x from di)with e|⟨e,_⟩|⟨j,h',V1,V2,g1,v,z,e⟩|⟨_,e,_⟩
   ·rw[e];simp
   ·rw[e];simp
   ·have eY:(K i).is P p.c p.Wg Im p.Ss (UT t i) x:=di;rw[e]at eY;obtain⟨_,_,rfl,_⟩:=eY;simp[parked]
   ·rw[e];simp
end
def Ok (P:SI)(Post:SP->Tp->Prop)(m:ap_)(t:Um):Prop:=
 ∃M last o w' t',runNT P (M+1) m t=(.ended o w',t')/\runN P M m=.next last/\step P last=.ended o w'/\WX P Post last o w' t'
section
variable {P:SI}{Post:SP->Tp->Prop}
theorem Ok.step{m m':ap_}{t:Um}{ops:Array Wc}(hs:stepT P m=(.next m',ops))(h:Ok P Post m' (t++ops)):Ok P Post m t:=by
 obtain⟨M,last,o,w',t',h1,h2,h3,h4⟩:=h;refine⟨M+1,last,o,w',t',?_,?_,h3,h4⟩
 ·rw[runNT,hs];exact h1
 ·have:ab' P m=.next m':=by unfold ab';rw[hs]
  rw[runN,this];exact h2
theorem Ok.end{m:ap_}{t:Um}{o:Outcome}{w':Tp}{ops:Array Wc}(hs:stepT P m=(.ended o w',ops))(h:WX P Post m o w' (t++ops)):Ok P Post m t:=by
 refine⟨0,m,o,w',t++ops,?_,rfl,?_,h⟩
 ·simp[runNT,hs]
 ·unfold ab';rw[hs]
end
section
variable {P:SI}{n0:Nat}{W0:Tp}{V:View}{gs gs':Array SG}{w w':Tp}{sl:Option (Nat×Nat)}{t:Um}{K:Nat->GS}{Im:cw}{ic:Nat}{ph:Option Phase}{p:Phase}{st st':Option eg}
theorem Inv.draw(h:Inv P n0 W0 V gs w t K Im ic ph st)(d:Nat):Inv P n0 W0 V gs (w.at d) t K Im ic ph st:=
 let⟨a,b,c,e⟩:=h.out
 Inv.mk' h.pos h.k0 h.d0 a (b.draw d) c (by cases ph<;>exact e)
theorem NE{f:Nat->Nat}:∀{N:Nat},0<sumTo N f->∃i,i<N/\0<f i
 |0,h=>by simp[sumTo]at h
 |N+1,h=>by
  by_cases hN:0<f N
  ·exact⟨N,by omega,hN⟩
  ·obtain⟨i,hi,hf⟩:=NE (N:=N) (f:=f) (by rw[sumTo]at h;omega);exact⟨i,by omega,hf⟩
theorem Inv.aqu(h:Inv P n0 W0 V gs w t K Im ic (some p) st)(aG:p.recv=true)(ho:yX w p.c)(s_:Calm gs):∃i gi,0<i/\gs[i]?=some gi/\gi.status=.running:=by
 obtain⟨s,hs,gp,iS,hm⟩:=h.mode aG;have h0:=h.k0;have B8:gs[ic]?=some gs[ic]:=SJ iS;have atu:(K ic).is P p.c p.Wg Im p.Ss (UT t ic) gs[ic]:=h.is ic _ gp B8;have run:∀i x,0<i->gs[i]?=some x->(∀q,K i≠ .gone q)->(∀n,K i≠ .ig n)->x.status=.running:=by
  intro i x hi hx h1 h2;rcases GS.runs (show (K i).is P p.c p.Wg Im p.Ss (UT t i) x from h.is i x hi hx)with e|⟨_,q,e⟩|⟨j,h',V1,V2,g1,v,z,e⟩|⟨⟨n,e⟩,_⟩
  ·exact e
  ·exact absurd e (h1 q)
  ·have cC:=h.is i x hi hx;simp only[e,GS.is]at cC;obtain⟨_,_,jh,_⟩:=cC;have:=s_ i x hi hx (by rw[jh];rfl);rw[jh]at this;cases this
  ·exact absurd e (h2 n)
 have LV:(∀q,K ic≠ .gone q)->(∀n,K ic≠ .ig n)->∃i gi,0<i/\gs[i]?=some gi/\gi.status=.running:=λa b=>⟨ic,_,gp,B8,run ic _ gp B8 a b⟩;have other:∀i,i<gs.size->(K i).cnt=1\/(K i).late=1->∃i gi,0<i/\gs[i]?=some gi/\gi.status=.running:=by
  intro i hi hc;have eT:0<i:=by
   rcases UH i with rfl|x
   ·rw[h0]at hc;rcases hc with c|c<;>cases c
   ·exact x
  exact⟨i,_,eT,SJ hi,run i _ eT (SJ hi) (λq e=>by rw[e]at hc;rcases hc with c|c<;>cases c) (λq e=>by rw[e]at hc;rcases hc with c|c<;>cases c)⟩
 have one:∀i,0<(K i).cnt->(K i).cnt=1:=λi hi=>by cases e:K i<;>rw[e]at hi<;>first|rfl|exact absurd hi (by simp[GS.cnt])
 have anS:∀i,0<(K i).late->(K i).late=1:=λi hi=>by cases e:K i<;>rw[e]at hi<;>first|rfl|exact absurd hi (by simp[GS.late])
 unfold Mode at hm;rcases hm with m|m|m|m|m|m|m
 ·rcases m.2.2.2.2.2 with⟨k,e,_⟩|⟨v,e,_⟩<;>exact LV (λq x=>by rw[x]at e;cases e) (λq x=>by rw[x]at e;cases e)
 ·obtain⟨i,hi,hc⟩:=NE (N:=gs.size) (f:=λi=>(K i).cnt) (by have:=m.2.2.2.1;omega);exact other i hi (.inl (one i hc))
 ·obtain⟨i,hi,hc⟩:=NE (N:=gs.size) (f:=λi=>(K i).late) (by have:=m.2.2.1;omega);exact other i hi (.inr (anS i hc))
 ·exact⟨ic,_,gp,B8,m.2.2.2.2.2.1 _ B8⟩
 ·rcases m.2.2.2.2.2 with e|e<;>exact LV (λq x=>by rw[x]at e;cases e) (λq x=>by rw[x]at e;cases e)
 ·rcases m.2.2.2.2 with e|e<;>exact LV (λq x=>by rw[x]at e;cases e) (λq x=>by rw[x]at e;cases e)
 ·obtain⟨⟨_,n,_,_,_,aY⟩,_⟩:=m;obtain⟨n',ho⟩:=ho;rw[aY]at ho;simp at ho
theorem so(V':View)(Im:cw)(K:Nat->GS):bE V' Im K=upd (bE V Im K) 0 V':=by
 funext j;by_cases hj:j=0
 ·subst hj;rw[bx];simp[bE]
 ·rw[ba _ _ hj];simp[bE,hj]
theorem kS:bE V Im K 0=V:=by simp[bE]
def vF (r:mY)(ph:Option Phase):Prop:=match r with
 |.plain=>ph=none
 |.fork c Wg Ss=>ph=some ⟨c,Wg,Ss,false⟩
 |.recv c Wg Ss=>ph=some ⟨c,Wg,Ss,true⟩
 |.work .. =>False
theorem Inv.am2(h:Inv P n0 W0 V gs w t K Im ic ph st){V':View}(g:dR V V')(hr:vF V.role ph):Inv P n0 W0 V' gs w t K Im ic ph st:=by
 obtain⟨di,hc,mO,gK⟩:=h.out;refine Inv.mk' h.pos h.k0 (by rw[g.deaf];exact h.d0) di ?_ mO ?_
 ·rw[so (V:=V)];exact hc.ghost h.pos (by rw[kS];exact g)
 ·cases ph with
  |none=>exact gK
  |some p=>
   obtain⟨a1,a2,a3,a4,a5,a6,a7,a8,a9,bR⟩:=gK;refine⟨a1,a2,a3,a4,a5,a6,a7,a8,a9,?_⟩;split
   ·rename_i aG;rw[if_pos aG]at bR;have b:jq p V:=⟨bR.1.1,bR.1.2.1,bR.1.2.2.1,bR.1.2.2.2⟩;have b':=b.ghost g;exact⟨⟨b'.1,b'.2.1,b'.2.2.1,b'.2.2.2⟩,bR.2⟩
   ·rename_i aG;rw[if_neg aG]at bR;refine⟨g.chan _ _ ?_ bR.1,bR.2⟩;unfold vF at hr;split at hr
    ·cases hr
    ·cases hr;rename_i e;rw[e];rfl
    ·cases hr;exact absurd rfl aG
    ·exact hr.elim
theorem Inv.aaV(h:Inv P n0 W0 V gs w t K Im ic ph st){g0 g':SG}{es:Array Ur}{V':View}(h0:gs[0]?=some g0)(s:dg V w V' w' es)(hr:vF V.role ph):
  Inv P n0 W0 V' ((gs.map (woken P g0 g' w')).setIfInBounds 0 g') w' (t++Ta 0 g0.frame.fn g0.frame.place es) K Im ic ph st:=by
 obtain⟨di,hc,mO,gK⟩:=h.out;have aV:((gs.map (woken P g0 g' w')).setIfInBounds 0 g').size=gs.size:=by simp
 have CW:∀op∈Ta 0 g0.frame.fn g0.frame.place es,op.g=0:=λop ay=>by obtain⟨e,_,rfl⟩:=TM ay;rfl
 have ep:∀{u:Um}{idx:Nat}{op:Wc},(t++u)[idx]?=some op->op.g=0->Wm (t++u) 0 idx:=λ{u idx op} a b=>by have:=Zb a;rwa [b]at this
 have Rl:∀p,ph=some p->w'.heap[p.c]?=w.heap[p.c]?:=by
  rintro p rfl
  obtain⟨a1,a2,a3,a4,a5,a6,a7,a8,a9,bR⟩:=gK;by_cases aG:p.recv=true
  ·rw[if_pos aG]at bR;exact s.frame _ a4 bR.1.1
  ·rw[if_neg aG]at bR;have db:Sat V w:=(by have:=hc.sat 0 h.pos;rwa [kS]at this);have eI:V.role.chan=some p.c:=by
    unfold vF at hr;split at hr
    ·cases hr
    ·cases hr;rename_i e;rw[e];rfl
    ·cases hr;exact absurd rfl aG
    ·exact hr.elim
   rw[s.sat.own _ _ (s.chan _ _ eI bR.1),db.own _ _ bR.1]
 refine Inv.mk' (by rw[aV];exact h.pos) h.k0 (by rw[Deaf_own,s.deaf,h.d0]) (λj x hj hx=> ?_) ?_ ?_ ?_
 ·rcases getElem?_next h.pos hx with⟨e,_⟩|⟨_,y,hy,rfl⟩
  ·omega
  ·rw[at3 t (g:=j) (g':=0) (by omega) _ CW];have C4:=di j y hj hy;have KN:j<gs.size:=(SS.1 hy).1;cases ph with
   |none=>
    obtain⟨q,hq,pC⟩:=C4;exact⟨q,hq,by rw[woken_quitsD pC];exact pC⟩
   |some p=>
    refine aas ?_ C4;rcases h.opens rfl with⟨n,x⟩|x
    ·exact .inl ⟨n,by rw[Rl p rfl];exact x⟩
    ·exact .inr (x.1 j hj KN)
 ·rw[aV,so (V:=V)];refine hc.step h.pos (by rw[kS];exact s) (λe he x hx hs=> ?_) g0.frame.fn g0.frame.place;cases ph with
  |none=>exact hs.elim
  |some p=>
   obtain⟨a1,a2,a3,a4,a5,a6,a7,a8,a9,bR⟩:=gK;have qg:=I9 (s.ff e he) hx;by_cases aG:p.recv=true
   ·exfalso;rw[if_pos aG]at bR;have b:jq p V:=⟨bR.1.1,bR.1.2.1,bR.1.2.2.1,bR.1.2.2.2⟩;rcases qg.1 with y|⟨y,_⟩|y
    ·exact b.Ax y.rd hs
    ·exact b.Ax y hs
    ·exact y (acv a4 a5 hs)
   ·rw[if_neg aG]at bR;have ji:V.role.chan=some p.c/\V.role.group=some p.Wg:=by
     unfold vF at hr;split at hr
     ·cases hr
     ·cases hr;rename_i e;rw[e];exact⟨rfl,rfl⟩
     ·cases hr;exact absurd rfl aG
     ·exact hr.elim
    have ki:m_ (some p) gs.size ic K 0:=by
     show ja p gs.size ic K 0;unfold ja;rw[if_neg aG];exact .inl rfl
    have CK:x.kind≠ .plain:=by
     intro hk;cases hl:x.loc with
     |cell a=>rw[hl]at hs;exact qg.2.2 _ a ji.2 hl hs hk
     |obj r=>rw[hl]at hs;exact qg.2.1 _ ji.1 (by rw[hl];exact congrArg _ hs)
     |_=>rw[hl]at hs;exact hs.elim
    cases hk:x.kind with
    |plain=>exact absurd hk CK
    |atomic=>exact .inl ⟨rfl,ki⟩
    |said=>exact .inr ⟨rfl,bR.2.1.symm,ki⟩
 ·have ww:∀idx a,t.size<=idx->(∃op∈Ta 0 g0.frame.fn g0.frame.place es,(t++Ta 0 g0.frame.fn g0.frame.place es)[idx]?=some op/\op.act.touch?=some a)->Wm (t++Ta 0 g0.frame.fn g0.frame.place es) 0 idx:=λidx a _ ⟨op,ay,hi,_⟩=>ep hi (CW op ay);cases st with
  |none=>
   intro idx a ha hm;rcases AZ ha with gk|⟨hi,x⟩
   ·obtain⟨op,ay,_⟩:=UU gk;rcases mO idx a gk hm with x|⟨x,y⟩|⟨_,z,_⟩
    ·exact .inl (x.app _)
    ·exact .inr (.inl ⟨x,λz=>y ((Wr (TJ ay)).1 z)⟩)
    ·cases z
   ·exact .inl (ww idx a hi x)
  |some s'=>
   exact mO.app (λidx a ha hx=> .inr (hx.app (by obtain⟨op,ay,_⟩:=UU ha;exact TJ ay) λj _ _ hj=> .inl hj)) (λidx a hi x _=> .inl (ww idx a hi x))
 ·cases ph with
  |none=>exact gK
  |some p=>
   obtain⟨a1,a2,a3,a4,a5,a6,a7,a8,a9,bR⟩:=gK;refine⟨a1,a2,a3,Td a4 s.size,Td a5 s.size,a6,a7,λj j' m b1 b2 b3 b4=>a8 j j' m b1 (aV▸b2) b3 (aV▸b4),λj S b1 b2=>by rw[aV];exact a9 j S b1 b2,?_⟩;split
   ·rename_i aG;rw[if_pos aG]at bR;obtain⟨c1,c2,c3,s',c4,c5⟩:=bR;have b:jq p V:=⟨c1.1,c1.2.1,c1.2.2.1,c1.2.2.2⟩;have b':=b.step s a4 a5;refine⟨⟨b'.1,b'.2.1,b'.2.2.1,b'.2.2.2⟩,c2,by rw[aV];exact c3,s',c4,?_⟩;rw[aV];refine c5.keep (λ_=>rfl) (Rl p rfl) (s.frame _ a5 b.2.2.1) λrM g hg=> ?_;rcases getElem?_next h.pos hg with⟨e,_⟩|⟨_,y,hy,rfl⟩
    ·omega
    ·rw[Yh (rM y hy)];exact rM y hy
   ·rename_i aG;rw[if_neg aG]at bR;have eI:V.role.chan=some p.c:=by
     unfold vF at hr;split at hr
     ·cases hr
     ·cases hr;rename_i e;rw[e];rfl
     ·cases hr;exact absurd rfl aG
     ·exact hr.elim
    exact⟨s.chan _ _ eI bR.1,bR.2.1,bR.2.2.1,by rw[aV];exact bR.2.2.2.1,bR.2.2.2.2.1,by rw[aV];exact bR.2.2.2.2.2⟩
end
theorem adh{x y:Wc}{k:Nat}(hx:x.act=.go k)(hy:y.act=.start):∀op∈(#[x,y]:Um),op.act.touch?=none/\still op.act/\(∀B,op.act.low B)/\∀a,op.act≠ .mark (.release a):=by
 intro op ay;simp only[TK,SK,S0,or_false]at ay;rcases ay with rfl|rfl
 ·rw[hx];exact⟨rfl,⟨by simp,by simp⟩,λ_=>trivial,by simp⟩
 ·rw[hy];exact⟨rfl,⟨by simp,by simp⟩,λ_=>trivial,by simp⟩
theorem Pn{t:Um}{N:Nat}(h:∀op∈t,op.g<N):UT t N=0:=by
 have key:∀k,k<=t.size->t.deaf N k=0:=by
  intro k;induction k with
  |zero=>intro _;rfl
  |succ k ih=>
   intro hk;have hy:t[k]?=some t[k]:=SJ (by omega);have aH:¬t[k].g=N:=(by have:=h t[k] (XR _);omega);rw[Z_ hy,ih (by omega)];unfold deafStep;split<;>simp[aH]
 exact key _ (SQ _)
section
variable {VV:Nat->View}{N:Nat}{w:Tp}{t:Um}{Sh:Loc->Prop}{act act':Nat->Prop}{ic kK n0:Nat}{W0:Tp}
theorem Core.spawn(h:Core VV N w t Sh act ic n0 W0)(h0:0<N)(aT:UT t 0=0){x y:Wc}(hx:x.g=0/\x.act=.go N)(hy:y.g=N/\y.act=.start){U:View}(hi:U.ab=(VV 0).ab)(ho:U.own=λ_=>none)
  (ki:∀i,act' i->act i\/(i=N/\act 0)) (fS:kK=ic\/(kK=N/\ic=0)):Core (upd VV N U) (N+1) w (t++#[x,y]) Sh act' kK n0 W0:=by
 have jH:=adh hx.2 hy.2;have hdN:UT t N=0:=Pn h.ti.gs;have hk:∀{idx},Wm t 0 idx->Wm (t++#[x,y]) N idx:=λ{idx} jK=>fork_knows hx hy aT hdN jK;have hsU:Sat U w:=⟨λb o v e=>(h.sat 0 h0).ab b o v (by rw[<- hi];exact e),λb x e=>by rw[ho]at e;cases e⟩;refine⟨λi cC=> ?_,λa b ha hb gH=> ?_,?_,h.tape,h.os,h.out,h.old,λi cC b hb=> ?_,h.n0⟩
 ·by_cases fu:i=N
  ·subst fu;rw[bx];exact hsU
  ·rw[ba _ _ fu];exact h.sat i (by omega)
 ·by_cases Q9:a=N
  ·subst Q9;rw[bx];intro q hq;rw[ho]at hq;exact absurd rfl hq
  ·rw[ba _ _ Q9];by_cases Rf:b=N
   ·subst Rf;rw[bx];intro q hq;refine⟨by rw[ho],λo hu=> ?_⟩;rw[hi]at hu;by_cases zF:a=0
    ·subst zF;exact hu
    ·exact(h.dM a 0 (by omega) h0 zF q hq).2 o hu
   ·rw[ba _ _ Rf];exact h.dM a b (by omega) (by omega) gH
 ·refine h.ti.mute (λop ay=>(jH op ay).1) (λop ay=>(jH op ay).2.2.1 _) (λop ay=> ?_) (by omega) (λop ay=>(jH op ay).2.2.2) (λi cC l hl idx a ha gI rR=> ?_) (λi cC l hl idx a ha gI=> ?_) (λidx a ha dK=>⟨λhp i cC=> ?_,λhp=> ?_⟩)
  ·simp only[TK,SK,S0,or_false]at ay;rcases ay with rfl|rfl
   ·omega
   ·omega
  ·obtain⟨_,cU,nC⟩:=hl;by_cases fu:i=N
   ·subst fu;rw[bx]at cU;have:gN (VV 0) l:=by
     cases l with
     |cell a'=>rcases cU with z|z;exact absurd (by rw[ho]) z;exact .inr (by rw[<- hi];exact z)
     |obj r=>exact absurd (by rw[ho]) cU
     |_=>exact cU.elim
    exact hk (h.ti.kr 0 h0 l ⟨h0,this,nC⟩ idx a ha gI rR)
   ·rw[ba _ _ fu]at cU;exact(h.ti.kr i (by omega) l ⟨by omega,cU,nC⟩ idx a ha gI rR).app _
  ·obtain⟨_,cU,nC⟩:=hl;by_cases fu:i=N
   ·subst fu;rw[bx]at cU;exfalso;cases l with
    |cell a'=>exact cU.1 (by rw[ho])
    |obj r=>exact cU (by rw[ho])
    |_=>exact cU.elim
   ·rw[ba _ _ fu]at cU;exact(h.ti.kw i (by omega) l ⟨by omega,cU,nC⟩ idx a ha gI).app _
  ·have:=h.ti.sp idx a ha dK;rcases ki i cC with z|⟨rfl,z⟩
   ·exact(this.1 hp i z).app _
   ·exact hk (this.1 hp 0 z)
  ·have:=h.ti.sp idx a ha dK;rcases fS with rfl|⟨rfl,rfl⟩
   ·exact(this.2 hp).app _
   ·exact hk (this.2 hp)
 ·by_cases fu:i=N
  ·subst fu;rw[bx,ho]
  ·rw[ba _ _ fu];exact h.jm i (by omega) b hb
end
section
variable {P:SI}{n0:Nat}{W0:Tp}{V:View}{gs gs':Array SG}{w w':Tp}{sl:Option (Nat×Nat)}{t:Um}{K:Nat->GS}{Im:cw}{ic:Nat}{ph:Option Phase}{p:Phase}{st st':Option eg}
theorem GS.adr{k:GS}(h:k.ng=false)(Im kU:cw):k.view kU=k.view Im:=by cases k<;>first|rfl|cases h
theorem GS.alM{k:GS}{c Wg d:Nat}{Im kU:cw}{Ss Oi:List (List Spec)}{g:SG}(h:k.ng=false)(hS:∀(j:Nat) S,Ss[j]?=some S->Oi[j]?=some S)(hk:k.is P c Wg Im Ss d g):k.is P c Wg kU Oi d g:=by
 cases k with
 |work j hh V=>obtain⟨a,b,S,e,f⟩:=hk;exact⟨a,b,S,hS _ _ e,f⟩
 |nT j hh V V' g0 v z=>obtain⟨a,b,c,d,sp,S,B,e,f⟩:=hk;exact⟨a,b,c,d,sp,S,B,hS _ _ e,f⟩
 |gone q=>exact hk
 |add n=>exact hk
 |load n=>exact hk
 |store n=>exact hk
 |my n=>exact hk
 |head k n=>cases h
 |mc k n=>cases h
 |said n=>cases h
 |ig n=>cases h
 |last n=>cases h
 |acq n=>cases h
 |look n=>cases h
 |close n=>cases h
theorem Inv.spawn(h:Inv P n0 W0 V gs w t K Im ic (some p) st)(aG:p.recv=false)(gG:V.deaf=0){g' child:SG}{x y:Wc}(hx:x.g=0/\x.act=.go gs.size)(hy:y.g=gs.size/\y.act=.start){V':View}{p':Phase}{kU:cw}{kK:Nat}{k':GS}(hc:p'.c=p.c)(zE:p'.Wg=p.Wg)
  (qq:mE V' V) (uE:V'.deaf=V.deaf) (qB:(k'.view kU).ab=V.ab) (hvo:(k'.view kU).own=λ_=>none) (hSs:∀(j:Nat) S,p.Ss[j]?=some S->p'.Ss[j]?=some S) (Cr:k'.is P p.c p.Wg kU p'.Ss 0 child)
  (ki:∀i,i<gs.size->ja p' (gs.size+1) kK (upd K gs.size k') i->ja p gs.size ic K i) (fS:kK=ic\/kK=gs.size)
  (CM:yY P n0 V' ((gs.setIfInBounds 0 g').push child) w (t++#[x,y]) (upd K gs.size k') kU kK (some p') (some .early)):
  Inv P n0 W0 V' ((gs.setIfInBounds 0 g').push child) w (t++#[x,y]) (upd K gs.size k') kU kK (some p') (some .early):=by
 obtain⟨di,gU,mO,gK⟩:=h.out;obtain⟨a1,a2,a3,a4,a5,a6,a7,a8,a9,bR⟩:=gK;rw[if_neg (by rw[aG];simp)]at bR;obtain⟨c1,c2,c3,c4,c5,c6⟩:=bR;have aV:((gs.setIfInBounds 0 g').push child).size=gs.size+1:=by simp
 have jH:=adh hx.2 hy.2;have bz:∀i,UT (t++#[x,y]) i=UT t i:=λi=>Deaf_still λop ay=>(jH op ay).2.1;have uR:=h.pos;have aT:UT t 0=0:=by rw[h.d0,gG]
 have aY:∀i,0<i->(K i).ng=false:=λi hi=>by
  cases e:(K i).ng with
  |false=>rfl
  |true=>have:=h.sh hi e;omega
 have ajE:m_ (some p) gs.size ic K 0:=by
  show ja p gs.size ic K 0;unfold ja;rw[if_neg (by rw[aG];simp)];exact .inl rfl
 have xO:=gU.spawn (act':=m_ (some p') (gs.size+1) kK (upd K gs.size k')) (kK:=kK) uR aT hx hy (U:=k'.view kU) (by rw[kS];exact qB) hvo (λi hi=>by
   by_cases fu:i<gs.size
   ·exact .inl (ki i fu hi)
   ·refine .inr ⟨?_,ajE⟩;have cC:ja p' (gs.size+1) kK (upd K gs.size k') i:=hi;unfold ja at cC;split at cC<;>omega) (fS.imp id λe=>⟨e,c2⟩)
 have aj3:=(xO.less (i:=0) (V':=V') (by omega) (by rw[ba _ _ (by omega),kS];exact qq)).congr (Ew:=bE V' kU (upd K gs.size k')) λi hi=>by
  by_cases eT:i=0
  ·subst eT;rw[bx];simp[bE]
  ·rw[ba _ _ eT];by_cases fu:i=gs.size
   ·subst fu;rw[bx];simp[bE,eT,bx]
   ·rw[ba _ _ fu];simp only[bE,eT,if_false,ba _ _ fu];exact GS.adr (aY i (by omega)) _ _
 refine Inv.mk' (by omega) (by rw[ba _ _ (by omega)];exact h.k0) (by rw[bz,uE];exact h.d0) (λi z hi hz=> ?_) ?_ ?_ CM
 ·rw[bz];show (upd K gs.size k' i).is P p'.c p'.Wg kU p'.Ss _ z;rw[hc,zE];by_cases fu:i=gs.size
  ·subst fu;rw[bx,Pn gU.ti.gs];have:z=child:=by
    rw[show gs.size=(gs.setIfInBounds 0 g').size by simp]at hz;rw[Array.getElem?_push_size]at hz;exact(VY hz).symm
   rw[this];exact Cr
  ·have atr:i<gs.size:=(by have:=(SS.1 hz).1;omega);rw[ba _ _ fu];rw[Xf,if_neg (by simp;omega),SU (by omega)]at hz;exact GS.alM (aY i hi) hSs (di i z hi hz)
 ·rw[aV];have e:sf (some p')=sf (some p):=by show qW p'.c p'.Wg=qW p.c p.Wg;rw[hc,zE]
  rw[e];exact aj3
 ·have hr:Rest p.Wg t K ic st:=mO;rw[c3]at hr;show Rest p'.Wg _ _ _ _;rw[zE];intro idx a ha hm;have gk:=A0 (λop ay=>(jH op ay).1) ha;obtain⟨op,ay,_⟩:=UU gk;have hlt:=TJ ay;rcases hr idx a gk hm with z|⟨z1,z2⟩|⟨s,hs,jK⟩
  ·exact .inl (z.app _)
  ·exact .inr (.inl ⟨z1,λz=>z2 ((Wr hlt).1 z)⟩)
  ·cases hs;obtain⟨i,hg,hi,hz⟩:=jK;have fu:i<gs.size:=by
    obtain⟨op',bf,pu⟩:=Tq.1 hg;rw[<- pu];exact gU.ti.gs op' (XQ bf)
   refine .inr (.inr ⟨.early,rfl,i,by rw[g?_old hlt];exact hg,hi,?_⟩);rcases hz with hz|hz|⟨r,hz,hle⟩
   ·exact .inl (by rw[ba _ _ (by omega)];exact hz)
   ·omega
   ·exact .inr (.inr ⟨r,hz.app,hle⟩)
theorem Sat.LY{c:Nat}{a:Nat}{x:Bool}{y z:Nat}{u:Bool}{EN:Array SP}(h:Sat V w)(hc:w.heap[c]?=some (.chan a EN x y z u))(o:Nat):V.ab c o=none:=by
 cases e:V.ab c o with
 |none=>rfl
 |some v=>have:=h.ab c o v e;simp[Uz,hc]at this
theorem Inv.aa7(h:Inv P n0 W0 V gs w t K Im ic (some p) st)(aG:p.recv=false){i:Nat}(hi:0<i):(K i).ng=false:=by
 have hx:=h.phase.2.2.2.2.2.2.2.2.2;rw[if_neg (by rw[aG];simp)]at hx;cases e:(K i).ng with
 |false=>rfl
 |true=>have:=h.sh hi e;have:=hx.2.1;omega
theorem Inv.Fg(h:Inv P n0 W0 V gs w t K Im ic (some p) st)(aG:p.recv=false)(gG:V.deaf=0){g' child:SG}{x y:Wc}(hx:x.g=0/\x.act=.go gs.size)(hy:y.g=gs.size/\y.act=.start){hh:Ht}{sp:Spec}{S:List Spec}(hlen:p.Ss.length<4)(oq:∀o,V.ab p.Wg o=none)
  (Cr:lF P hh {ab:=V.ab,own:=λ_=>none,deaf:=0,role:=.work p.c p.Wg (sp::S)} child):
  Inv P n0 W0 {V with role:=.fork p.c p.Wg (p.Ss++[sp::S])} ((gs.setIfInBounds 0 g').push child) w (t++#[x,y]) (upd K gs.size (.work p.Ss.length hh {ab:=V.ab,own:=λ_=>none,deaf:=0,role:=.work p.c p.Wg (sp::S)})) Im ic
   (some {p with Ss:=p.Ss++[sp::S]}) (some .early):=by
 obtain⟨di,gU,mO,gK⟩:=h.out;obtain⟨a1,a2,a3,a4,a5,a6,a7,a8,a9,bR⟩:=gK;rw[if_neg (by rw[aG];simp)]at bR;obtain⟨c1,c2,c3,c4,c5,c6⟩:=bR;have aV:((gs.setIfInBounds 0 g').push child).size=gs.size+1:=by simp
 have db:Sat V w:=by have:=gU.sat 0 h.pos;rwa [kS]at this
 have zM:=db.LY (db.own _ _ c1);have cZ:∀i j,0<i->i<gs.size->(K i).idx=some j->j<p.Ss.length:=λi j hi hlt e=>by
  have RF:=di i _ hi (SJ hlt);have KH:(K i).is P p.c p.Wg Im p.Ss (UT t i) gs[i]:=RF;cases k_:K i<;>rw[k_]at e KH<;>simp[GS.idx]at e
  ·subst e;obtain⟨_,_,S,e,_⟩:=KH;exact(SL.1 e).1
  ·subst e;obtain⟨_,_,_,_,_,_,_,e,_⟩:=KH;exact(SL.1 e).1
 refine h.spawn aG gG hx hy rfl rfl ⟨λ_=> .inr rfl,λ_ _=> .inr rfl,λ_ _ _=>rfl⟩ rfl rfl rfl (λj S' e=> ?_) ⟨rfl,Cr,sp::S,by simp,rfl⟩ (λi hi ki=> ?_) (.inl rfl) ?_
 ·show (p.Ss++[sp::S])[j]?=some S';rw[SW (SL.1 e).1];exact e
 ·unfold ja at ki⊢;rw[if_neg (by show ¬p.recv=true;rw[aG];simp)]at ki;rw[if_neg (by rw[aG];simp)];rw[ba _ _ (by omega)]at ki;exact ki.imp id λz=>⟨hi,z.2⟩
 ·refine⟨a1,a2,a3,a4,a5,by simp only[SN,Ul,UN];omega,λi hi=> ?_,λi i' j b1 b2 b3 b4 b5 b6=> ?_,λj S' b1 b2=> ?_,?_⟩
  ·by_cases fu:i=gs.size
   ·subst fu;rw[bx];exact⟨rfl,zM,rfl,oq,λe=>by cases e⟩
   ·rw[ba _ _ fu];exact a7 i hi
  ·rw[aV]at b2 b4;by_cases e1:i=gs.size
   ·by_cases e2:i'=gs.size
    ·omega
    ·rw[ba _ _ e2]at b6;have:=cZ i' j b3 (by omega) b6;subst e1;rw[bx]at b5;simp only[GS.idx,Tj]at b5;omega
   ·rw[ba _ _ e1]at b5;by_cases e2:i'=gs.size
    ·have:=cZ i j b1 (by omega) b5;subst e2;rw[bx]at b6;simp only[GS.idx,Tj]at b6;omega
    ·rw[ba _ _ e2]at b6;exact a8 i i' j b1 (by omega) b3 (by omega) b5 b6
  ·rw[aV];by_cases hj:j<p.Ss.length
   ·have:p.Ss[j]?=some S':=by
     have Iw:(p.Ss++[sp::S])[j]?=some S':=b1;rwa [SW hj]at Iw
    obtain⟨i,e1,e2,e3⟩:=a9 j S' this b2;exact⟨i,e1,by omega,by rw[ba _ _ (by omega)];exact e3⟩
   ·have iB:j=p.Ss.length:=by
     have:=(SL.1 (show (p.Ss++[sp::S])[j]?=some S' from b1)).1;simp at this;omega
    exact⟨gs.size,h.pos,by omega,by rw[bx,iB];rfl⟩
  ·show if p.recv=true then _ else _;rw[if_neg (by rw[aG];simp)];refine⟨c1,c2,rfl,λi b1 b2=> ?_,λS' hS'=> ?_,?_⟩
   ·rw[aV]at b2;by_cases fu:i=gs.size
    ·subst fu;rw[bx];exact .inl rfl
    ·rw[ba _ _ fu];exact c4 i b1 (by omega)
   ·rcases SR.1 hS' with z|z
    ·exact c5 S' z
    ·simp at z;subst z;simp
   ·rw[aV,sumTo,bx,SN,<- c6];rw[Vp (g:=λi=>(K i).cnt) λi hi=>by rw[ba _ _ (by omega)]];rfl
theorem Inv.Ff(h:Inv P n0 W0 V gs w t K Im ic (some p) st)(aG:p.recv=false)(gG:V.deaf=0){g' child:SG}{x y:Wc}(hx:x.g=0/\x.act=.go gs.size)(hy:y.g=gs.size/\y.act=.start){n:Nat}
  (zE:V.own p.Wg=some (wgBlock P (((p.Ss.length:Nat):Int)* KK) 0)) (oq:∀o,V.ab p.Wg o=none) (Cr:cS P (eF P V.ab p.c p.Wg 5) n 0 child):
  Inv P n0 W0 {V with own:=λb=>if b=p.c\/b=p.Wg then none else V.own b,role:=.recv p.c p.Wg p.Ss} ((gs.setIfInBounds 0 g').push child) w (t++#[x,y]) (upd K gs.size (.head 5 n)) V.ab gs.size (some {p with recv:=true}) (some .early):=by
 obtain⟨di,gU,mO,gK⟩:=h.out;obtain⟨a1,a2,a3,a4,a5,a6,a7,a8,a9,bR⟩:=gK;rw[if_neg (by rw[aG];simp)]at bR;obtain⟨c1,c2,c3,c4,c5,c6⟩:=bR;have aV:((gs.setIfInBounds 0 g').push child).size=gs.size+1:=by simp
 have db:Sat V w:=by have:=gU.sat 0 h.pos;rwa [kS]at this
 have zM:=db.LY (db.own _ _ c1);have uR:=h.pos;refine h.spawn aG gG hx hy rfl rfl ⟨λb=> ?_,λ_ _=> .inr rfl,λ_ _ _=>rfl⟩ rfl rfl rfl (λj S' e=>e) Cr (λi hi ki=> ?_) (.inr rfl) ?_
 ·by_cases e:b=p.c\/b=p.Wg
  ·exact .inl (by simp only[e,if_true])
  ·exact .inr (by simp only[e,if_false])
 ·unfold ja at ki⊢;rw[if_pos rfl]at ki;rw[if_neg (by rw[aG];simp)];rw[ba _ _ (by omega)]at ki;obtain⟨z1,_,z2⟩:=ki;rcases c4 i z1 hi with z|⟨q,z⟩
  ·exact .inr ⟨hi,z⟩
  ·exfalso;rw[z]at z2;rcases z2 with z2|z2|z2|z2
   ·cases z2
   ·omega
   ·cases z2
   ·cases z2
 ·refine⟨a1,a2,a3,a4,a5,a6,λi hi=> ?_,λi i' j b1 b2 b3 b4 b5 b6=> ?_,λj S' b1 b2=> ?_,?_⟩
  ·by_cases fu:i=gs.size
   ·subst fu;rw[bx];exact⟨rfl,zM,rfl,oq,λ_=>rfl⟩
   ·rw[ba _ _ fu,GS.adr (h.aa7 aG hi) Im];have:=a7 i hi;exact⟨this.1,this.2.1,this.2.2.1,this.2.2.2.1,λe=>by rw[h.aa7 aG hi]at e;cases e⟩
  ·rw[aV]at b2 b4;by_cases e1:i=gs.size
   ·subst e1;rw[bx]at b5;cases b5
   ·by_cases e2:i'=gs.size
    ·subst e2;rw[bx]at b6;cases b6
    ·rw[ba _ _ e1]at b5;rw[ba _ _ e2]at b6;exact a8 i i' j b1 (by omega) b3 (by omega) b5 b6
  ·obtain⟨i,e1,e2,e3⟩:=a9 j S' b1 b2;exact⟨i,e1,by omega,by rw[ba _ _ (by omega)];exact e3⟩
  ·show if true=true then _ else _;rw[if_pos rfl];refine⟨⟨by simp,zM,by simp,oq⟩,by omega,by rw[aV];omega,.early,rfl,?_⟩;rw[aV];have e1:sumTo (gs.size+1) (λi=>(upd K gs.size (.head 5 n) i).cnt)=p.Ss.length:=by
    rw[sumTo,bx,<- c6];rw[Vp (g:=λi=>(K i).cnt) λi hi=>by rw[ba _ _ (by omega)]];rfl
   have e2:sumTo (gs.size+1) (λi=>(upd K gs.size (.head 5 n) i).late)=0:=by
    have hz:∀N,sumTo N (λ_=>0)=0:=λN=>(by induction N with|zero=>rfl|succ N ih=>simp[sumTo,ih]);rw[sumTo,bx];rw[Vp (g:=λ_=>0) λi hi=> ?_,hz]
    ·rfl
    ·rw[ba _ _ (by omega)];rcases UH i with rfl|eT
     ·rw[h.k0];rfl
     ·rcases c4 i eT hi with z|⟨q,z⟩
      ·cases k_:K i<;>rw[k_]at z<;>first|rfl|cases z
      ·rw[z];rfl
   unfold Mode;simp only[e1,e2,bx];exact .inl ⟨⟨0,db.own _ _ c1⟩,trivial,trivial,a6,db.own _ _ zE,.inl ⟨5,rfl,by omega⟩⟩
theorem Inv.begin(h:Inv P n0 W0 V gs w t K Im ic none st){c Wg:Nat}(aH:c≠Wg)(hc:V.own c=some (.chan 0 #[] false 0 0 false)) (hW:V.own Wg≠none) (oq:∀o,V.ab Wg o=none):
  Inv P n0 W0 {V with role:=.fork c Wg []} gs w t (λi=>if i<gs.size then K i else .gone 0) Im 0 (some ⟨c,Wg,[],false⟩) (some .early):=by
 obtain⟨di,gU,mO,gK⟩:=h.out;have db:Sat V w:=by have:=gU.sat 0 h.pos;rwa [kS]at this
 have zM:=db.LY (db.own _ _ hc);have tj:∀i,(∃q,(if i<gs.size then K i else .gone 0)=GS.gone q):=λi=>by
  by_cases hi:i<gs.size
  ·rw[if_pos hi];rcases UH i with rfl|eT
   ·exact⟨0,h.k0⟩
   ·obtain⟨q,hq,_⟩:=di i _ eT (SJ hi);exact⟨q,hq⟩
  ·rw[if_neg hi];exact⟨0,rfl⟩
 have ij:∀{b x},V.own b=some x->n0<=b/\b<w.heap.size:=λ{b x} e=>by
  refine⟨?_,db.lt e⟩;apply Nat.le_of_not_lt;intro hb;have:=gU.jm 0 h.pos b hb;rw[kS,e]at this;cases this
 obtain⟨xW,hxW⟩:∃x,V.own Wg=some x:=by cases e:V.own Wg with|none=>exact absurd e hW|some x=>exact⟨x,rfl⟩
 have mm:∀i,0<i->((if i<gs.size then K i else .gone 0).view Im)=noView:=λi _=>by obtain⟨q,e⟩:=tj i;rw[e];rfl
 refine Inv.mk' h.pos (by rw[if_pos h.pos];exact h.k0) h.d0 (λi x hi hx=> ?_) ?_ ?_ ?_
 ·have hlt:i<gs.size:=(SS.1 hx).1;obtain⟨q,hq,hy⟩:=di i x hi hx;show (if i<gs.size then K i else .gone 0).is P c Wg Im [] _ x;rw[if_pos hlt,hq];exact hy
 ·have bm:Core (bE {V with role:=.fork c Wg []} Im (λi=>if i<gs.size then K i else .gone 0)) gs.size w t (sf none) (m_ none gs.size ic K) ic n0 W0:=by
   refine(gU.role (i:=0) (V':={V with role:=.fork c Wg []}) h.pos (by rw[kS]) (by rw[kS])).congr λi hi=> ?_;by_cases eT:i=0
   ·subst eT;rw[bx];simp[bE]
   ·rw[ba _ _ eT];simp[bE,eT,hi]
  refine⟨bm.sat,bm.dM,?_,bm.tape,bm.os,bm.out,bm.old,bm.jm,bm.n0⟩;refine bm.ti.weaken (SQ _) (λi l _ x=> .inl ⟨x.1,x.2.1,λz=>z.elim⟩) (λi l _ x=>⟨x.1,x.2.1,λz=>z.elim⟩) (λidx a ha dK=> ?_);have hk:Wm t 0 idx:=by
   have yd:jT V a.loc:=by
    have Ag:qW c Wg a.loc:=dK;cases hl:a.loc with
    |cell ad=>rw[hl]at Ag;have e:ad.block=Wg:=Ag;exact⟨by rw[e];exact hW,by rw[e];exact oq _⟩
    |obj r=>rw[hl]at Ag;have e:r=c:=Ag;show V.own r≠none;rw[e,hc];simp
    |_=>rw[hl]at Ag;exact Ag.elim
   exact gU.ti.kw 0 h.pos a.loc ⟨h.pos,by rw[kS];exact yd,λz=>z.elim⟩ idx a ha rfl
  refine⟨λ_ i hi=> ?_,λ_=>hk⟩;have cC:ja ⟨c,Wg,[],false⟩ gs.size 0 (λi=>if i<gs.size then K i else .gone 0) i:=hi;unfold ja at cC;rw[if_neg (by simp)]at cC;rcases cC with rfl|⟨_,e⟩
  ·exact hk
  ·obtain⟨q,eq⟩:=tj i;simp only[eq]at e;cases e
 ·have aQ:st=none:=gK;intro idx a ha hm;rcases mO idx a ha hm with z|z|⟨s,e,_⟩
  ·exact .inl z
  ·exact .inr (.inl z)
  ·rw[aQ]at e;cases e
 ·refine⟨(ij hc).1,(ij hxW).1,aH,(ij hc).2,(ij hxW).2,by simp,λi hi=> ?_,λi i' j _ _ _ _ b5=> ?_,λj S b1=>by simp at b1,?_⟩
  ·rw[mm i hi];exact⟨rfl,λ_=>rfl,rfl,λ_=>rfl,λe=>by obtain⟨q,eq⟩:=tj i;simp only[eq]at e;cases e⟩
  ·obtain⟨q,eq⟩:=tj i;simp only[eq]at b5;cases b5
  ·show if false=true then _ else _;rw[if_neg (by simp)];refine⟨hc,rfl,rfl,λi _ _=> .inr (tj i),by simp,?_⟩;have hz:∀N,sumTo N (λ_=>0)=0:=λN=>(by induction N with|zero=>rfl|succ N ih=>simp[sumTo,ih]);rw[Vp (g:=λ_=>0) λi _=>by obtain⟨q,eq⟩:=tj i;show (if i<gs.size then K i else GS.gone 0).cnt=0;rw[eq];rfl];exact hz _
theorem Inv.aqq(h:Inv P n0 W0 V gs w t K Im ic (some p) st)(aG:p.recv=true)(gG:V.deaf=0){g0 g':SG}{n:Nat}(aY:w.heap[p.c]?=some (.chan 0 #[] true n n false)) {y:Wc} (hy:y.g=0/\y.act=.recvClosed p.c):
  (∀S∈p.Ss,S=[])/\Inv P n0 W0 {V with role:=.plain} (gs.setIfInBounds 0 g') w (t++#[y]) K Im ic none none:=by
 obtain⟨di,gU,mO,gK⟩:=h.out;obtain⟨a1,a2,a3,a4,a5,a6,a7,a8,a9,bR⟩:=gK;rw[if_pos aG]at bR;obtain⟨c1,c2,c3,s,c4,c5⟩:=bR;have xX:(∃pp n,s=.shut pp/\t.act? pp=some (.close p.c)/\t.heard pp/\w.heap[p.c]?=some (.chan 0 #[] true n n false))/\(sumTo gs.size λi=>(K i).late)=0/\(sumTo gs.size λi=>(K i).cnt)=0/\(K ic).shape=.gone 0:=by
  have no:¬∃n,w.heap[p.c]?=some (.chan 0 #[] false n n false):=λ⟨m,e⟩=>by rw[aY]at e;simp at e
  unfold Mode at c5;rcases c5 with m|m|m|m|m|m|m
  ·exact absurd m.1 no
  ·exact absurd m.1 no
  ·exact absurd m.1 no
  ·exact absurd m.1 no
  ·exact absurd m.1 no
  ·exact absurd m.1 no
  ·exact m
 obtain⟨⟨pp,n',rfl,m1,m2,_⟩,m3,m4,m5⟩:=xX;have tj:∀i,i<gs.size->∃q,K i=.gone q:=λi hi=>by
  have e1:(K i).cnt<=sumTo gs.size λi=>(K i).cnt:=WE (f:=λi=>(K i).cnt) hi;have e2:(K i).late<=sumTo gs.size λi=>(K i).late:=WE (f:=λi=>(K i).late) hi;rcases UH i with rfl|eT
  ·exact⟨0,h.k0⟩
  ·have hc:=h.sh (i:=i) eT;have z1:(K i).cnt=0:=(by omega);have z2:(K i).late=0:=(by omega);clear e1 e2;cases k_:K i<;>rw[k_]at z1 z2 hc<;>first
    |exact⟨_,rfl⟩
    |(exfalso;simp[GS.cnt]at z1;done)
    |(exfalso;simp[GS.late]at z2;done)
    |(exfalso;have:=hc rfl;subst this;rw[k_]at m5;cases m5)
 have bV:jq p V:=⟨c1.1,c1.2.1,c1.2.2.1,c1.2.2.2⟩;have aT:UT t 0=0:=by rw[h.d0,gG]
 have nJ:∀op∈(#[y]:Um),op.act.touch?=none/\still op.act/\op.act.low w.heap.size/\(∀a,op.act≠ .mark (.release a))/\op.g=0:=by
  intro op ay;simp only[TK,SK,S0,or_false]at ay;subst ay;rw[hy.2];exact⟨rfl,⟨by simp,by simp⟩,a4,by simp,hy.1⟩
 have bz:∀i,UT (t++#[y]) i=UT t i:=λi=>Deaf_still λop ay=>(nJ op ay).2.1;have aV:(gs.setIfInBounds 0 g').size=gs.size:=by simp
 refine⟨λS hS=> ?_,?_⟩
 ·obtain⟨j,hj⟩:=UR.1 hS;apply Tm;intro aH;obtain⟨i,e1,e2,e3⟩:=a9 j S hj aH;obtain⟨q,e⟩:=tj i e2;rw[e]at e3;cases e3
 ·refine Inv.mk' (by rw[aV];exact h.pos) h.k0 (by rw[bz];exact h.d0) (λi x hi hx=> ?_) ?_ ?_ rfl
  ·rw[SU (by omega)]at hx;have hlt:i<gs.size:=(SS.1 hx).1;obtain⟨q,e⟩:=tj i hlt;have hk:(K i).is P p.c p.Wg Im p.Ss (UT t i) x:=di i x hi hx;rw[e]at hk;rw[bz];exact⟨q,e,hk⟩
  ·rw[aV];have h1:=(gU.role (i:=0) (V':={V with role:=.plain}) h.pos (by rw[kS]) (by rw[kS])).congr (Ew:=bE {V with role:=.plain} Im K) λi hi=>by
    by_cases eT:i=0
    ·subst eT;rw[bx];simp[bE]
    ·rw[ba _ _ eT];simp[bE,eT]
   have aba:∀i l,i<gs.size->gN (bE {V with role:=.plain} Im K i) l->¬qW p.c p.Wg l:=λi l hi hl=>by
    by_cases eT:i=0
    ·subst eT;have b':jq p (bE {V with role:=.plain} Im K 0):=(by simp only[bE,if_true];exact bV);exact b'.Ax hl
    ·obtain⟨q,e⟩:=tj i hi;have:bE {V with role:=.plain} Im K i=noView:=(by simp only[bE,eT,if_false,e];rfl);rw[this]at hl;exact afQ.Ax hl
   refine⟨h1.sat,h1.dM,?_,h1.tape,h1.os,h1.out,h1.old,h1.jm,h1.n0⟩;have wz:=h1.ti.mute (u:=#[y]) (N':=gs.size) (rd':=λi l=>i<gs.size/\gN (bE {V with role:=.plain} Im K i) l/\¬sf none l) (wr':=λi l=>i<gs.size/\jT (bE {V with role:=.plain} Im K i) l/\¬sf none l) (act':=m_ (some p) gs.size ic K) (kK:=ic)
    (λop ay=>(nJ op ay).1) (λop ay=>(nJ op ay).2.2.1) (λop ay=>by rw[(nJ op ay).2.2.2.2];exact h.pos) (SQ _) (λop ay=>(nJ op ay).2.2.2.1)
    (λi hi l hl idx a ha gI hw=>(h1.ti.kr i hi l ⟨hl.1,hl.2.1,aba i l hi hl.2.1⟩ idx a ha gI hw).app _) (λi hi l hl idx a ha gI=>(h1.ti.kw i hi l ⟨hl.1,hl.2.1,aba i l hi hl.2.1.rd⟩ idx a ha gI).app _)
    (λidx a ha dK=>⟨λhp i hi=>((h1.ti.sp idx a ha dK).1 hp i hi).app _,λhp=>((h1.ti.sp idx a ha dK).2 hp).app _⟩)
   exact wz.weaken (SQ _) (λ_ _ _ x=> .inl x) (λ_ _ _ x=>x) (λidx a _ hx=>hx.elim)
  ·have hr:Rest p.Wg t K ic st:=mO;rw[c4]at hr;intro idx a ha hm;have gk:=A0 (λop ay=>(nJ op ay).1) ha;obtain⟨op,ay,_⟩:=UU gk;rcases hr idx a gk hm with z|⟨z1,z2⟩|⟨s,hs,hx⟩
   ·exact .inl (z.app _)
   ·exact .inr (.inl ⟨z1,λz=>z2 ((Wr (TJ ay)).1 z)⟩)
   ·cases hs;exact .inl (agq m1 m2 hy aT hx)
theorem Inv.am3(h:Inv P n0 W0 V gs w t K Im ic (some p) st)(aG:p.recv=true)(x:SG):Inv P n0 W0 V (gs.setIfInBounds 0 x) w t K Im ic (some p) st:=by
 obtain⟨di,gU,mO,gK⟩:=h.out;obtain⟨a1,a2,a3,a4,a5,a6,a7,a8,a9,bR⟩:=gK;have aV:(gs.setIfInBounds 0 x).size=gs.size:=by simp
 rw[if_pos aG]at bR;obtain⟨c1,c2,c3,s,c4,c5⟩:=bR;refine Inv.mk' (by rw[aV];exact h.pos) h.k0 h.d0 (λi z hi hz=> ?_) (by rw[aV];exact gU) mO ⟨a1,a2,a3,a4,a5,a6,a7,by rw[aV];exact a8,by rw[aV];exact a9,?_⟩
 ·rw[SU (by omega)]at hz;exact di i z hi hz
 ·rw[if_pos aG];refine⟨c1,c2,by rw[aV];exact c3,s,c4,?_⟩;rw[aV];have e0:t=t++#[]:=by simp
  rw[e0];exact c5.keep (λ_=>rfl) rfl rfl λrM g hg=>by rw[SU (by omega)]at hg;exact rM g hg
end
def MJ (P:SI)(Post:SP->Tp->Prop)(n0:Nat)(W0:Tp)(V:View)(g:SG):Prop:=
 g.status=.running/\∀gs w sl t K Im ic ph st,Inv P n0 W0 V gs w t K Im ic ph st->vF V.role ph->kC gs g->Ok P Post (crowd gs w sl) t
section
variable {P:SI}{Post:SP->Tp->Prop}{n0:Nat}{W0:Tp}
def adP (P:SI)(Post:SP->Tp->Prop)(gs:Array SG)(w:Tp)(sl:Option (Nat×Nat))(t:Um):Prop:=
 (∃m' ops,runT P (crowd gs w sl) 0=(.next m',ops)/\Ok P Post m' (t++ops))\/∃o w' ops,runT P (crowd gs w sl) 0=(.ended o w',ops)/\∀w0 DV,WX P Post (crowd gs w0 DV) o w' (t++ops)
theorem kC.pos{gs:Array SG}{g:SG}(h:kC gs g):∃(i:Nat)(x:SG),gs[i]?=some x/\x.status=.running:=by
 obtain⟨g0,h0,h1,_⟩:=h;exact⟨0,g0,h0,h1⟩
theorem MJ.iJ{V:View}{g:SG}(hg:g.status=.running)(own:∀gs w sl t K Im ic ph st,Inv P n0 W0 V gs w t K Im ic ph st->vF V.role ph->kC gs g->adP P Post gs w sl t):MJ P Post n0 W0 V g:=by
 refine⟨hg,λgs w sl t K Im ic ph st h hr hm=> ?_⟩;generalize hN:gs.size=N;generalize hμ:((λj=>(K j).c_),flag gs ic)=μ;induction μ using(aa3 N).induction generalizing gs w sl t K st with
 |_ μ ih=>
  obtain⟨i,gi,d,oL,aM,bH,aQ⟩:=ZU (P:=P) (w:=w) (sl:=sl) (h.awake (.inl hm)) hm.pos;have hd:=h.draw d;rcases UH i with rfl|hi
  ·rcases own _ _ oL _ _ _ _ _ _ hd hr hm with⟨m',ops,h1,h2⟩|⟨o,w',ops,h1,h2⟩
   ·exact Ok.step (aQ.trans h1) h2
   ·exact Ok.end (aQ.trans h1) (h2 w sl)
  ·rcases hd.other (sl:=oL) (.inl hm) hi aM bH with⟨gs',w',ops,K',st',h1,h2,h3,h4,_,h5⟩|⟨p,_,_,jh⟩
   ·have po:kC gs' g:=by
     cases ph with
     |none=>exact(h4 g 0 (by simp)).1 hm
     |some p=>exact(h4 g p.c (λq hq=>by cases hq;rfl)).1 hm
    exact Ok.step (aQ.trans h1) (ih _ (by rw[<- hμ,<- hN];exact h5) gs' w' oL _ K' st' h3 po (by rw[h2,hN]) rfl)
   ·obtain⟨g0,h0,hs,_⟩:=hm;obtain⟨g1,z,h1,_⟩:=jh;rw[h1]at h0;cases h0;cases hs
theorem MJ.recv{V:View}{g:SG}{c Wg:Nat}{Ss:List (List Spec)}{z:SP}(ji:V.role=.recv c Wg Ss)(gG:V.deaf=0)(hg:g.status=.running)
  (lr:∀w,Sat V w->stepG P true g w=.comm g #[rcase c z] true (.recv true) w #[])
  (J1:∀(i:Nat) sp S v Im Ow,Ss[i]?=some (sp::S)->sp v Im Ow->(∀b,V.own b≠none->Ow b=none)->(∀b o,V.own b≠none->Im b o≠none->V.ab b o≠none)->(∃w,Sat V w/\(∀b o x,Im b o=some x->w.cell? ⟨b,o,none⟩=some x)/\∀b x,Ow b=some x->w.heap[b]?=some x)->
   MJ P Post n0 W0 (nO V Im Ow (.recv c Wg (Ss.set i S))) (T5 g (.tuple #[v,.bool true])))
  (J2:(∀S∈Ss,S=[])->MJ P Post n0 W0 {V with role:=.plain} (T5 g (.tuple #[z,.bool false]))):MJ P Post n0 W0 V g:=by
 have met:∀{gs w sl t K Im ic st i},Inv P n0 W0 V gs w t K Im ic (some ⟨c,Wg,Ss,true⟩) st->Et P n0 W0 V gs w sl t Im ic ⟨c,Wg,Ss,true⟩ st g i->∀{m},stepT P m=runT P (crowd gs w sl) i->Ok P Post m t:=by
  rintro gs w sl t K Im ic st i _ ⟨gs',w',ops,K',j,sp,S,v,kU,Ow,h1,h2,h3,h4,h5,h6,h6',h7,h8⟩ m hm
  exact Ok.step (hm.trans h1) ((J1 j sp S v kU Ow h4 h5 h6 h6' h7).2 gs' w' sl _ K' Im ic _ st h8 rfl h3)
 refine⟨hg,λgs w sl t K Im ic ph st h hr hm=> ?_⟩;have gK:ph=some ⟨c,Wg,Ss,true⟩:=by rw[ji]at hr;exact hr
 subst gK
 suffices key:∀N μ gs w sl t K st,Inv P n0 W0 V gs w t K Im ic (some ⟨c,Wg,Ss,true⟩) st->gs.size=N->((λj=>(K j).c_),flag gs ic)=μ->(kC gs g\/(nZ gs g c/\Calm gs/\yX w c))->Ok P Post (crowd gs w sl) t from key _ _ gs w sl t K st h rfl rfl (.inl hm)
 clear h hr hm;intro N μ;induction μ using(aa3 N).induction with
 |_ μ ih=>
  have A:∀gs w sl t K st,Inv P n0 W0 V gs w t K Im ic (some ⟨c,Wg,Ss,true⟩) st->gs.size=N->((λj=>(K j).c_),flag gs ic)=μ->nZ gs g c->Calm gs->yX w c->Ok P Post (crowd gs w sl) t:=by
   intro gs w sl t K st h hN hμ jh s_ ho;have pq:kC gs g\/∃p,some (Phase.mk c Wg Ss true)=some p/\p.recv=true/\V.deaf=0/\nZ gs g p.c:=.inr ⟨_,rfl,rfl,gG,jh⟩;have als:∃(i:Nat)(x:SG),gs[i]?=some x/\x.status=.running:=by
    obtain⟨i,x,_,h1,h2⟩:=h.aqu rfl ho s_;exact⟨i,x,h1,h2⟩
   obtain⟨i,gi,d,oL,aM,bH,aQ⟩:=ZU (P:=P) (w:=w) (sl:=sl) (h.awake pq) als;have hd:=h.draw d;have hi:0<i:=by
    rcases UH i with rfl|hi
    ·obtain⟨g1,z1,h1,_⟩:=jh;rw[h1]at aM;cases aM;cases bH
    ·exact hi
   rcases hd.other (sl:=oL) pq hi aM bH with⟨gs',w',ops,K',st',h1,h2,h3,h4,h5,h6⟩|⟨p,hp,uO,_⟩
   ·refine Ok.step (aQ.trans h1) (ih _ (by rw[<- hμ,<- hN];exact h6) gs' w' oL _ K' st' h3 (by rw[h2,hN]) rfl ?_);rcases(h4 g c (λq hq=>by cases hq;rfl)).2 jh ho with x|⟨x,y⟩
    ·exact .inl x
    ·exact .inr ⟨x,h5 g c jh s_,y⟩
   ·cases hp;exact met hd uO aQ
  intro gs w sl t K st h hN hμ po;rcases po with hm|⟨h1,h2,h3⟩
  ·obtain⟨i,gi,d,oL,aM,bH,aQ⟩:=ZU (P:=P) (w:=w) (sl:=sl) (h.awake (.inl hm)) hm.pos;have hd:=h.draw d;rcases UH i with rfl|hi
   ·
    obtain⟨g0,h0,lL,lg,iQ,mM⟩:=hm;have fx:Sat V (w.at d):=(by have:=hd.core.sat 0 h.pos;rwa [kS]at this);have lq:stepG P (0==0) g0 (w.at d)=.comm g #[rcase c z] true (.recv true) (w.at d) #[]:=(by rw[<- lr _ fx];exact Xb lg iQ mM _);have e0:(t++Ta 0 g0.frame.fn g0.frame.place #[])=t:=(by simp[Ta]);rcases hd.opens rfl with⟨n,gJ⟩|⟨akH,⟨n,aY⟩,_⟩
    ·by_cases Sn:∃i j h' V₁ V₂ g1 v z1,0<i/\i<gs.size/\K i=.nT j h' V₁ V₂ g1 v z1
     ·exact met hd (hd.apn (sl:=oL) rfl gG ⟨g0,h0,lL,lg,iQ,mM⟩ (lr _ fx) Sn) aQ
     ·have offers:∀m x,0<m->gs[m]?=some x->x.status=.blocked->x.offers=none:=by
       intro m x iT hx hb;rcases GS.runs (show (K m).is P c Wg Im Ss (UT t m) x from h.is m x iT hx)with e|⟨e,_⟩|⟨j,h',V1,V2,g1,v,z1,e⟩|⟨_,_,e⟩
       ·rw[e]at hb;cases hb
       ·rw[e]at hb;cases hb
       ·exact absurd ⟨m,j,h',V1,V2,g1,v,z1,iT,(SS.1 hx).1,e⟩ Sn
       ·exact e
      have hw:=crowd_waits (P:=P) (sl:=oL) (i:=0) h0 lq (λcc jf=>by
       simp only[TK,SK,S0,or_false]at jf;subst jf;refine ways_recv_none gJ (partners_nil λm x hx=> ?_);rcases X6 gs 0 m x hx with⟨_,rfl⟩|⟨iT,jK⟩
       ·exact Zl _ _
       ·by_cases hb:x.status=.blocked
        ·unfold offersAt;simp[hb,offers m x (by omega) jK hb]
        ·exact UV hb _ _)
      refine Ok.step (aQ.trans hw) ?_;rw[e0];refine A _ (w.at d) oL t K st (hd.am3 rfl _) (by simp[hN]) ?_ ⟨g,z,?_,rfl,rfl,rfl⟩ (λm x iT hx hb=> ?_) ⟨n,gJ⟩
      ·rw[<- hμ];have fS:0<ic:=(by obtain⟨_,_,x,_⟩:=h.mode rfl;exact x);unfold flag;rw[SU (by omega)]
      ·rw[S_ h.pos]
      ·rw[SU (by omega)]at hx;exact offers m x iT hx hb
    ·have hp:partners (gs.setIfInBounds 0 ph) c true=[]:=partners_nil λm x hx=>by
      rcases X6 gs 0 m x hx with⟨_,rfl⟩|⟨iT,jK⟩
      ·exact Zl _ _
      ·have hlt:m<gs.size:=(SS.1 jK).1;rcases GS.runs (show (K m).is P c Wg Im Ss (UT t m) x from h.is m x (by omega) jK)with e|⟨e,_⟩|⟨j,h',V1,V2,g1,v,z1,e⟩|⟨_,eb,e⟩
       ·exact UV (by rw[e];simp) _ _
       ·exact UV (by rw[e];simp) _ _
       ·have:=akH m (by omega) hlt;rw[e]at this;cases this
       ·unfold offersAt;simp[eb,e]
     have hw:=crowd_recv_closed (P:=P) (sl:=oL) (i:=0) h0 lq aY hp;refine Ok.step (aQ.trans hw) ?_;rw[Yu,<- Xq,e0];obtain⟨hS,hinv⟩:=hd.aqq rfl gG (g0:=g0) (g':=T5 g (recvd true z false)) aY (y:={g:=0,fn:=g.frame.fn,pos:=g.frame.place,act:=.recvClosed c}) ⟨rfl,rfl⟩;exact(J2 hS).2 _ (w.at d) oL _ K Im ic none none hinv rfl ⟨T5 g (recvd true z false),by rw[S_ h.pos],rfl,rfl,rfl,rfl⟩
   ·rcases hd.other (sl:=oL) (.inl hm) hi aM bH with⟨gs',w',ops,K',st',h1,h2,h3,h4,_,h5⟩|⟨p,_,_,jh⟩
    ·exact Ok.step (aQ.trans h1) (ih _ (by rw[<- hμ,<- hN];exact h5) gs' w' oL _ K' st' h3 (by rw[h2,hN]) rfl (.inl ((h4 g c (λq hq=>by cases hq;rfl)).1 hm)))
    ·obtain⟨g0,h0,hs,_⟩:=hm;obtain⟨g1,z1,h1,_⟩:=jh;rw[h1]at h0;cases h0;cases hs
  ·exact A gs w sl t K st h hN hμ h1 h2 h3
theorem ank:Closed true P true (MJ P Post n0 W0)where
 step V g hs h:=by
  refine MJ.iJ hs λgs w sl t K Im ic ph st hI hr ⟨g0,h0,lL,lg,iQ,mM⟩=> .inl ?_;have fx:Sat V w:=by have:=hI.core.sat 0 hI.pos;rwa [kS]at this
  obtain⟨g',w',es,V',h1,h2,h3⟩:=h w fx;have aQ:stepG P (0==0) g0 w=.go g' w' es:=by rw[<- h1];exact Xb lg iQ mM w
  refine⟨_,_,runT_crowd_go h0 aQ,h3.2 _ w' sl _ K Im ic ph st (hI.aaV h0 h2 hr) (by rw[h2.role];exact hr) ⟨g',?_,h3.1,rfl,rfl,rfl⟩⟩;rw[S_ (by simpa using hI.pos)]
 ghost V V' g hg h:=⟨h.1,λgs w sl t K Im ic ph st hI hr hm=>h.2 gs w sl t K Im ic ph st (hI.am2 hg hr) (by rw[hg.role];exact hr) hm⟩
 send V g c Wg sp S v z B hr hd hs ho h1 h2 h3:=⟨hs,λgs w sl t K Im ic ph st hI b8 hm=>by rw[hr]at b8;exact b8.elim⟩
 done V g c Wg hr hd h1:=⟨h1.1,λgs w sl t K Im ic ph st hI b8 hm=>by rw[hr]at b8;exact b8.elim⟩
 slip V g g' c Wg hr hs h1 h2:=⟨hs,λgs w sl t K Im ic ph st hI b8 hm=>by rw[hr]at b8;exact b8.elim⟩
 more _:={
  start:=λV g c Wg hr aH hc hW oq h=>⟨h.1,λgs w sl t K Im ic ph st hI b8 hm=>by
   rw[hr]at b8;cases b8;exact h.2 gs w sl t _ Im 0 _ _ (hI.begin aH hc hW oq) rfl hm⟩
  Fg:=λV g g' child c Wg Ss sp S hr hd hs hc hW hlen oq aQ eI LJ h=>by
   refine MJ.iJ hs λgs w sl t K Im ic ph st hI b8 ⟨g0,h0,lL,lg,iQ,mM⟩=> .inl ?_;rw[hr]at b8;cases b8;have fx:Sat V w:=(by have:=hI.core.sat 0 hI.pos;rwa [kS]at this);have lR:stepG P (0==0) g0 w=.spawn g' child w #[]:=(by rw[<- aQ w fx];exact Xb lg iQ mM w);obtain⟨hh,hk⟩:=LJ _ (ar7 P);have bH:=Z9 (P:=P) (sl:=sl) h0 lR;have e0:Ta 0 g0.frame.fn g0.frame.place #[]=#[]:=rfl;rw[e0]at bH;have hinv:=hI.Fg (g':=g') (x:={g:=0,fn:=g0.frame.fn,pos:=g0.frame.place,act:=.go gs.size}) (y:={g:=gs.size,fn:=child.frame.fn,pos:=g0.frame.place,act:=.start}) rfl hd ⟨rfl,rfl⟩ ⟨rfl,rfl⟩ hlen oq hk;exact⟨_,_,bH,h.2 _ w sl _ _ Im ic _ _ hinv rfl ⟨g',by rw[Xf,if_neg (by simp;have:=hI.pos;omega),S_ hI.pos],h.1,rfl,rfl,rfl⟩⟩
  Ff:=λV g g' child c Wg Ss hr hd hs aH hc hW zM oq aQ eI aY h=>by
   refine MJ.iJ hs λgs w sl t K Im ic ph st hI b8 ⟨g0,h0,lL,lg,iQ,mM⟩=> .inl ?_;rw[hr]at b8;cases b8;have fx:Sat V w:=(by have:=hI.core.sat 0 hI.pos;rwa [kS]at this);have lR:stepG P (0==0) g0 w=.spawn g' child w #[]:=(by rw[<- aQ w fx];exact Xb lg iQ mM w);obtain⟨n,hk⟩:=aY;have bH:=Z9 (P:=P) (sl:=sl) h0 lR;have e0:Ta 0 g0.frame.fn g0.frame.place #[]=#[]:=rfl;rw[e0]at bH;have hinv:=hI.Ff (g':=g') (x:={g:=0,fn:=g0.frame.fn,pos:=g0.frame.place,act:=.go gs.size}) (y:={g:=gs.size,fn:=child.frame.fn,pos:=g0.frame.place,act:=.start}) rfl hd ⟨rfl,rfl⟩ ⟨rfl,rfl⟩ hW oq hk;exact⟨_,_,bH,h.2 _ w sl _ _ V.ab gs.size _ _ hinv rfl ⟨g',by rw[Xf,if_neg (by simp;have:=hI.pos;omega),S_ hI.pos],h.1,rfl,rfl,rfl⟩⟩
  recv:=λV g c Wg Ss z hr hd hs ho aQ j1 j2=>MJ.recv hr hd hs aQ j1 j2}
structure Left (n0:Nat)(W0 w:Tp):Prop where
 tape:w.tape=W0.tape
 os:w.os=W0.os
 out:w.output=W0.output
 old:∀b,b<n0->w.heap[b]?=W0.heap[b]?
 size:n0<=w.heap.size
theorem Inv.JC{V:View}{gs:Array SG}{w:Tp}{t:Um}{K:Nat->GS}{Im:cw}{ic:Nat}{st:Option eg}(h:Inv P n0 W0 V gs w t K Im ic none st){v:SP}(hp:Post v w)(w0:Tp)(DV:Option (Nat×Nat)):WX P Post (crowd gs w0 DV) (.done v) w t:=by
 obtain⟨di,gU,mO,aQ⟩:=h.out;have lR:st=none:=aQ;refine⟨v,rfl,hp,gU.ti.nr,?_,⟨?_,rfl⟩,?_⟩
 ·intro i g hg lL ⟨x,hx,hm,hk⟩;rcases mO i x hx hm with⟨q,z,h1,h2,h3⟩|⟨h1,h2⟩|⟨_,h1,_⟩
  ·rcases h3 with rfl|h3
   ·exfalso;simp only[WB,h1,UP,Tj]at hg;omega
   ·exact⟨q,by simp[WB,h1,h2],h3⟩
  ·rcases hk with hk|hk
   ·exact absurd h1 hk
   ·exact absurd hk h2
  ·rw[lR]at h1;cases h1
 ·intro g hg;obtain⟨i,hi⟩:=UR.1 hg;rw[Uo]at hi;have cC:gs[1+i]?=some g:=by simpa[crowd]using hi
  obtain⟨q,_,hq⟩:=di (1+i) g (by omega) cC;exact⟨q,hq.leaves⟩
 ·intro i g hi eT;obtain⟨q,_,hq⟩:=di i g (by omega) hi;exact⟨q,hq.hears _⟩
theorem MJ.end{V:View}{g:SG}(hg:g.status=.running)(hr:V.role=.plain)
  (h:∀w,Sat V w->Left n0 W0 w->(∀b,b<n0->V.own b=none)->∃v w' es V',stepG P true g w=.ended (.done v) w' es/\dg V w V' w' es/\Post v w'):MJ P Post n0 W0 V g:=by
 refine MJ.iJ hg λgs w sl t K Im ic ph st hI b8 ⟨g0,h0,lL,lg,iQ,mM⟩=> .inr ?_;have gU:=hI.out.2.1;have fx:Sat V w:=by have:=hI.core.sat 0 hI.pos;rwa [kS]at this
 obtain⟨v,w',es,V',h1,h2,h3⟩:=h w fx ⟨gU.tape,gU.os,gU.out,gU.old,gU.n0⟩ (λb hb=>by have:=gU.jm 0 hI.pos b hb;rwa [kS]at this);have aQ:stepG P (0==0) g0 w=.ended (.done v) w' es:=by rw[<- h1];exact Xb lg iQ mM w
 refine⟨_,w',_,runT_crowd_ended h0 aQ,λw0 DV=> ?_⟩;have gK:ph=none:=by rw[hr]at b8;exact b8
 subst gK;have hinv:=hI.aaV (g':=g0) h0 h2 b8;have th:=hinv.JC (Post:=Post) h3 w0 DV;obtain⟨v',e,hp,hn,hh,hl,hd⟩:=th;refine⟨v',e,hp,hn,hh,⟨?_,rfl⟩,?_⟩
 ·intro g Ku;obtain⟨i,hi⟩:=UR.1 Ku;rw[Uo]at hi;have cC:gs[1+i]?=some g:=by simpa[crowd]using hi
  obtain⟨q,_,hq⟩:=hI.out.1 (1+i) g (by omega) cC;exact⟨q,hq.leaves⟩
 ·intro i g hi eT;obtain⟨q,_,hq⟩:=hI.out.1 i g (by omega) hi;refine⟨q,?_⟩;have:(t++Ta 0 g0.frame.fn g0.frame.place es).deaf i (t++Ta 0 g0.frame.fn g0.frame.place es).size=UT t i:=
   at3 t (g:=i) (g':=0) (by omega) _ λop ay=>by obtain⟨e,_,rfl⟩:=TM ay;rfl
  rw[this];exact hq.hears _
theorem Inv.init(W:Tp){V:View}(ho:V.own=λ_=>none)(hd:V.deaf=0)(hs:Sat V W)(g:SG):Inv P W.heap.size W V #[g] W #[] (λ_=> .gone 0) V.ab 0 none none:=by
 have fw:∀i,i<(1:Nat)->bE V V.ab (λ_=> .gone 0) i=V:=λi hi=>by
  obtain rfl:i=0:=by omega
  simp[bE]
 refine Inv.mk' (by simp) rfl (by rw[hd];rfl) (λi x hi hx=> ?_) ⟨λi hi=>by rw[fw i hi];exact hs,λi j hi hj ku=> ?_,?_,rfl,rfl,rfl,λ_ _=>rfl,λi hi b _=>by rw[fw i hi,ho],SQ _⟩ ?_ rfl
 ·exfalso;have:=(SS.1 hx).1;simp at this;omega
 ·simp at hi hj;omega
 ·refine⟨λsaid hr=> ?_,by simp,by simp,by simp,λi _ l _ idx a ha=> ?_,λi _ l _ idx a ha=> ?_,λidx a ha=> ?_⟩
  ·obtain⟨i,j,_,⟨a,b,ha,_⟩,_⟩:=hr;obtain⟨op,ay,_⟩:=UU ha;simp at ay
  ·obtain⟨op,ay,_⟩:=UU ha;simp at ay
  ·obtain⟨op,ay,_⟩:=UU ha;simp at ay
  ·obtain⟨op,ay,_⟩:=UU ha;simp at ay
 ·intro idx a ha _;obtain⟨op,ay,_⟩:=UU ha;simp at ay
theorem ajr{f:TO}{args:Array SP}{W:Tp}{V:View}{R:Out->View->Prop}(hi:P.inits.idxOf? f=none)(ho:V.own=λ_=>none)(hd:V.deaf=0)(b8:V.role=.plain)(hs:Sat V W)(h:Body true P f args .normal V R)
  (hR:∀o V',R o V'->V'.role=.plain/\∃v,o=.ret v/\∀w,Sat V' w->Left W.heap.size W w->Post v w):
  ∃M last o w' t',runNT P (M+1) (solo (G (Frame.enter P f args .normal) []) W) #[]=(.ended o w',t')/\runN P M (solo (G (Frame.enter P f args .normal) []) W)=.next last/\step P last=.ended o w'/\WX P Post last o w' t':=by
 have hJ:MJ P Post W.heap.size W V (G (Frame.enter P f args .normal) []):=by
  refine h true _ ank [] λo V' fr r hl=> ?_;obtain⟨hr,v,rfl,hp⟩:=hR _ _ r;obtain⟨rfl,bz,hk,fn,hf,hm,gr⟩:=hl;refine MJ.end rfl hr λw hw zY hold=> ?_;obtain⟨es,w',aR,h1,h2,h3⟩:=gr.runs hw;rcases h3 with⟨x,h3,rfl,rfl⟩|⟨_,_,hx⟩
  ·refine⟨x,w',seen P fr.fn es,aR,by simp[G,stepG,unwind,doReturn,hm,bz,hk,hf,h3,h2,T1,hi],h1.seen P fr.fn,?_⟩;refine hp w' h1.sat ⟨h1.tape.trans zY.tape,h1.os.trans zY.os,h1.output.trans zY.out,λb hb=> ?_,UM zY.size h1.size⟩;rw[h1.frame b (Td hb zY.size) (hold b hb)];exact zY.old b hb
  ·exact hx.elim
 exact hJ.2 #[_] W none #[] _ _ _ none none (Inv.init W ho hd hs _) (by rw[b8];rfl) ⟨_,rfl,rfl,rfl,rfl,rfl⟩
end
def gw (P:SI)(main:Bool)(g:SG):SG:=match stepG P main g default with
 |.go g' _ _=>g'
 |_=>g
def Ay (P:SI)(main:Bool)(g:SG):Array Ur:=match stepG P main g default with
 |.go _ _ es=>es
 |_=>#[]
def cE (P:SI)(main:Bool):Nat->SG->SG
 |0,g=>g
 |n+1,g=>cE P main n (gw P main g)
def fL (P:SI)(main:Bool)(w:Tp):Nat->SG->List ZA
 |0,_=>[]
 |n+1,g=>stepG P main g w::fL P main w n (gw P main g)
def fC (P:SI)(main:Bool)(w:Tp):Nat->SG->List ZA
 |0,_=>[]
 |n+1,g=> .go (gw P main g) w (Ay P main g)::fC P main w n (gw P main g)
def bN (g:SG):Bool:=match g.status with
 |.running=>true
 |_=>false
theorem bN.out{g:SG}(h:bN g=true):g.status=.running:=by
 unfold bN at h;split at h
 ·assumption
 ·cases h
def iW (P:SI)(main:Bool):Nat->SG->Bool
 |0,_=>true
 |n+1,g=>bN g&&(Ay P main g).all WH&&iW P main n (gw P main g)
def oI (P:SI)(main:Bool):Nat->SG->Bool
 |0,_=>true
 |n+1,g=>bN g&&(Ay P main g).isEmpty&&oI P main n (gw P main g)
def jW (P:SI)(main:Bool):Nat->Nat->SG->Nat
 |0,d,_=>d
 |n+1,d,g=>jW P main n (deafBehind d (Ay P main g)) (gw P main g)
section
variable {P:SI}
theorem ME{n:Nat}{main:Bool}{g:SG}(h:iW P main (n+1) g=true):g.status=.running/\(∀e∈Ay P main g,WH e=true)/\iW P main n (gw P main g)=true:=by
 simp only[iW,Ti]at h;exact⟨bN.out h.1.1,λe he=>UK.1 h.1.2 e he,h.2⟩
theorem wN{Stop:Nat->SG->Prop}:∀(n d:Nat)(g:SG),(∀w,fL P false w n g=fC P false w n g)->iW P false n g=true->(∃m,cS P Stop m (jW P false n d g) (cE P false n g))->∃m,cS P Stop m d g
 |0,d,g,_,_,hs=>hs
 |n+1,d,g,h,hm,hs=>by
  obtain⟨h1,h2,h3⟩:=ME hm;obtain⟨m,hm⟩:=wN n _ (gw P false g) (λw=>(Vz (h w)).2) h3 hs;exact⟨m+1,.inr ⟨h1,_,_,h2,λw=>(Vz (h w)).1,hm⟩⟩
theorem acB{Wg:Nat}{Stop:Nat->SG->Prop}:∀(n d:Nat)(g:SG),(∀w,fL P false w n g=fC P false w n g)->iW P false n g=true->(∃m,h_ P Wg Stop m (jW P false n d g) (cE P false n g))->∃m,h_ P Wg Stop m d g
 |0,d,g,_,_,hs=>hs
 |n+1,d,g,h,hm,hs=>by
  obtain⟨h1,h2,h3⟩:=ME hm;obtain⟨m,hm⟩:=acB n _ (gw P false g) (λw=>(Vz (h w)).2) h3 hs;exact⟨m+1,.inr ⟨h1,_,_,h2,λw _ _ _=>(Vz (h w)).1,hm⟩⟩
theorem acC{Wg:Nat}{Stop:Nat->SG->Prop}{d:Nat}{g g':SG}(hr:g.status=.running)(h:∀w x y,WgAt P Wg w x y->stepG P false g w=.go g' w #[]) (hs:∃m,h_ P Wg Stop m d g'):∃m,h_ P Wg Stop m d g:=by
 obtain⟨m,hm⟩:=hs;exact⟨m+1,.inr ⟨hr,g',#[],by simp,h,by simpa[deafBehind]using hm⟩⟩
theorem Ha:∀(n d:Nat)(g:SG),(∀w,fL P false w n g=fC P false w n g)->iW P false n g=true->(∃q,Y4 P q (jW P false n d g) (cE P false n g))->∃q,Y4 P q d g
 |0,d,g,_,_,hs=>hs
 |n+1,d,g,h,hm,hs=>by
  obtain⟨h1,h2,h3⟩:=ME hm;obtain⟨m,hm⟩:=Ha n _ (gw P false g) (λw=>(Vz (h w)).2) h3 hs;exact⟨m+1,.inr ⟨h1,_,_,h2,λw=>(Vz (h w)).1,hm⟩⟩
theorem Nj{d:Nat}{g:SG}(h:g.status=.finished)(hd:d=0):∃q,Y4 P q d g:=⟨0,h,hd⟩
theorem apj{n:Nat}{main:Bool}{g:SG}(h:oI P main (n+1) g=true):g.status=.running/\Ay P main g=#[]/\oI P main n (gw P main g)=true:=by
 simp only[oI,Ti]at h;exact⟨bN.out h.1.1,by simpa using h.1.2,h.2⟩
theorem tM{lv main:Bool}{J:View->SG->Prop}(C:Closed lv P main J){V:View}:∀(n:Nat)(g:SG),(∀w,fL P main w n g=fC P main w n g)->oI P main n g=true->J V (cE P main n g)->J V g
 |0,g,_,_,hs=>hs
 |n+1,g,h,hm,hs=>by
  obtain⟨h1,h2,h3⟩:=apj hm;refine C.idle h1 (λw=> ?_) (tM C n (gw P main g) (λw=>(Vz (h w)).2) h3 hs);rw[(Vz (h w)).1,h2]
theorem Closed.mute{lv main:Bool}{J:View->SG->Prop}(C:Closed lv P main J){V:View}{g g':SG}{m:Mark}(hm:m=.disable\/m=.enable)(hr:g.status=.running)(h:∀w,stepG P main g w=.go g' w #[⟨.mark m,false,true⟩]) (hJ:J {V with deaf:=deafBehind V.deaf #[⟨.mark m,false,true⟩]} g'):J V g:=by
 refine C.step _ _ hr λw hw=> ?_;have hs:=aqc (P:=P) (V:=V) (k:=(.pure ():Sem Unit)) (K:=λ_ V'=>V'={V with deaf:=deafBehind V.deaf #[⟨.mark m,false,true⟩]}) (Kp:=λ_ _=>False) hm (cI rfl);obtain⟨es,w',V',k1,k2,k3⟩:=hs.runs hw;rcases k3 with⟨x,k3,rfl⟩|⟨_,_,hx⟩
 ·have e1:Yd () w=Yd x w':=k3;have e2:es=#[⟨.mark m,false,true⟩]:=k2.symm;cases e1;subst e2;refine⟨g',w,_,_,h w,?_,hJ⟩;rwa [tQ (by rcases hm with rfl|rfl<;>simp)]at k1
 ·exact hx.elim
def ready (g:SG):Option Tu:=match g with
 |{frame:={fn:=_,tmps,todo:=.inRegion ops (i::_)::_,defers:=_,mode:=.run,kind,roundOf:=none},callers:=_,status:=.running,dying:=none,offers:=none}=>
  match ops[i]?with
  |some o=>if Tg o (yielded ops tmps)&& !(kind== .early)then some o else none
  |none=>none
 |_=>none
def fin (g:SG)(v:SP):SG:={g with frame:=g.frame.finish v}
theorem ready.out{g:SG}{o:Tu}(h:ready g=some o):∃(b:Ua)(a:Act)(ops:Array Tu)(i:Nat)(rest:List Nat)(k:List WT)(cs:List Ua),g=G (b.at a (.inRegion ops (i::rest)::k)) cs/\ops[i]?=some o/\Tg o (yielded ops a.tmps)=true/\b.kind≠ .early/\a.eval=g.frame.eval/\
  (∀v,G (b.at (a.put o.dst v) (.inRegion ops rest::k)) cs=fin g v)/\b.fn=g.frame.fn/\g.status=.running:=by
 unfold ready at h;split at h
 ·rename_i fn tmps ops i rest k defers kind cs;split at h
  ·rename_i o' ho;split at h
   ·rename_i hw;cases h;simp only[Ti,TY,beq_eq_false_iff_ne,ne_eq]at hw;refine⟨{(default:Ua)with fn,kind},⟨tmps,defers⟩,ops,i,rest,k,cs,rfl,ho,hw.1,hw.2,?_,λv=> ?_,rfl,rfl⟩
    ·funext x;cases x<;>rfl
    ·unfold fin;have:=Frame.finish_at {(default:Ua)with fn,kind} ⟨tmps,defers⟩ ops i rest k v;rw[ho]at this;simp only[Frame.at,Option.bind_some]at this⊢;rw[this];rfl
   ·cases h
  ·cases h
 ·cases h
def cr (g:SG):Option (TO×Array SP):=match ready g with
 |some {op:=.call {callee:=.value (.func f),args, .. }, .. }=>some (f,args.map g.frame.eval)
 |_=>none
theorem cr.out{g:SG}{f:TO}{vs:Array SP}(h:cr g=some (f,vs)):∃o aE l_,ready g=some o/\o.op=.call {callee:=.value (.func f),args:=aE,argTypes:=l_}/\aE.map g.frame.eval=vs:=by
 unfold cr at h;split at h
 ·rename_i f' aE l_ dst ty pos af gd ho;cases h;exact⟨_,_,_,ho,rfl,rfl⟩
 ·cases h
structure Ext (P:SI)(f:TO)(e:Array SP->Sem SP):Prop where
 fn : ∃ fn, P.funcs[f]? = some fn /\ (fn.name == "runtime.NumGoroutine") = false /\ fn.body.isNone = true /\ Extern.findNext fn = none /\ Extern.find fn = some e
variable {main:Bool}{g:SG}{f:TO}{w:Tp}
theorem acF{v d:Int}{k:TW}{ad:U5}(h:cr g=some (f,#[.pointer (some ad),.int k d])) (he:Ext P f (XO (auc .add) k true)) (hc:w.cell? ad=some (.int k v)) (hz:w.frozen? ad=false):
  stepG P main g w=.go (fin g (.int k (k.wrap (v+d)))) (w.setCell ad (.int k (k.wrap (v+d)))) #[⟨.cell ad,false,true⟩,⟨.cell ad,true,true⟩]:=by
 obtain⟨o,aE,l_,h1,h2,h3⟩:=cr.out h;obtain⟨b,a,ops,i,rest,kk,cs,e,q1,q2,q3,q4,q5,q6,_⟩:=ready.out h1;obtain⟨fn,f1,f2,f3,f4,f5⟩:=he.fn;rw[<- q4]at h3;rw[<- q5];refine VJ (congrArg (λx=>stepG P main x w) e) ?_;exact ZB q1 q2 q3 h2 f1 f2 f3 f4 f5 (by rw[h3];exact run_add_entry hc hz) (by rw[h3,events_add_entry hc hz];rfl) (sync_rw ad)
theorem NB{v:Int}{k:TW}{ad:U5}(h:cr g=some (f,#[.pointer (some ad)])) (he:Ext P f (XX (.int k))) (hc:w.cell? ad=some (.int k v)):
  stepG P main g w=.go (fin g (.int k v)) w #[⟨.cell ad,false,true⟩]:=by
 obtain⟨o,aE,l_,h1,h2,h3⟩:=cr.out h;obtain⟨b,a,ops,i,rest,kk,cs,e,q1,q2,q3,q4,q5,q6,_⟩:=ready.out h1;obtain⟨fn,f1,f2,f3,f4,f5⟩:=he.fn;rw[<- q4]at h3;rw[<- q5];refine VJ (congrArg (λx=>stepG P main x w) e) ?_;obtain⟨x,rfl⟩:∃x,aE=#[x]:=by
  have:aE.size=1:=by have:=congrArg aa_ h3;simpa using this
  exact Array.size_eq_one_iff.1 this
 exact stepG_load_atomic q1 q2 q3 h2 f1 f2 f3 f4 k f5 (by simpa using h3) hc
theorem aqL{v:Int}{u:SP}{k:TW}{ad:U5}(h:cr g=some (f,#[.pointer (some ad),.int k v])) (he:Ext P f XP) (hc:w.cell? ad=some u) (hz:w.frozen? ad=false):
  stepG P main g w=.go (fin g (.tuple #[])) (w.setCell ad (.int k v)) #[⟨.cell ad,true,true⟩]:=by
 obtain⟨o,aE,l_,h1,h2,h3⟩:=cr.out h;obtain⟨b,a,ops,i,rest,kk,cs,e,q1,q2,q3,q4,q5,q6,_⟩:=ready.out h1;obtain⟨fn,f1,f2,f3,f4,f5⟩:=he.fn;rw[<- q4]at h3;rw[<- q5];refine VJ (congrArg (λx=>stepG P main x w) e) ?_;obtain⟨x,y,rfl⟩:∃x y,aE=#[x,y]:=by
  have:aE.toList.length=2:=by have:=congrArg aa_ h3;simpa using this
  obtain⟨l⟩:=aE
  match l,this with
  |[x,y],_=>exact⟨x,y,rfl⟩
 have vX:a.eval x=.pointer (some ad)/\a.eval y=.int k v:=by simpa using h3
 exact stepG_store_atomic q1 q2 q3 h2 f1 f2 f3 f4 f5 vX.1 vX.2 hc hz
theorem aqE{v n:Int}{k:TW}{ad:U5}(h:cr g=some (f,#[.pointer (some ad),.int k v,.int k n])) (he:Ext P f (WU (.int k))) (hc:w.cell? ad=some (.int k v)) (hz:w.frozen? ad=false):
  stepG P main g w=.go (fin g (.bool true)) (w.setCell ad (.int k n)) #[⟨.cell ad,false,true⟩,⟨.cell ad,true,true⟩]:=by
 obtain⟨o,aE,l_,h1,h2,h3⟩:=cr.out h;obtain⟨b,a,ops,i,rest,kk,cs,e,q1,q2,q3,q4,q5,q6,_⟩:=ready.out h1;obtain⟨fn,f1,f2,f3,f4,f5⟩:=he.fn;rw[<- q4]at h3;rw[<- q5];refine VJ (congrArg (λx=>stepG P main x w) e) ?_;exact ZB q1 q2 q3 h2 f1 f2 f3 f4 f5 (by rw[h3,ZZ];exact run_cas_hit_entry hc hz) (by rw[h3,ZZ,events_cas_hit_entry hc hz];rfl) (sync_rw ad)
theorem aqF{v old n:Int}{k:TW}{ad:U5}(h:cr g=some (f,#[.pointer (some ad),.int k old,.int k n])) (he:Ext P f (WU (.int k))) (hc:w.cell? ad=some (.int k v)) (hz:w.frozen? ad=false) (aH:¬v=old):
  stepG P main g w=.go (fin g (.bool false)) w #[⟨.cell ad,false,true⟩]:=by
 obtain⟨o,aE,l_,h1,h2,h3⟩:=cr.out h;obtain⟨b,a,ops,i,rest,kk,cs,e,q1,q2,q3,q4,q5,q6,_⟩:=ready.out h1;obtain⟨fn,f1,f2,f3,f4,f5⟩:=he.fn;rw[<- q4]at h3;rw[<- q5];refine VJ (congrArg (λx=>stepG P main x w) e) ?_;exact ZB q1 q2 q3 h2 f1 f2 f3 f4 f5 (by rw[h3,ZZ];exact run_cas_miss_entry hc hz aH) (by rw[h3,ZZ,events_cas_miss_entry hc hz aH];rfl) (sync_r ad)
theorem aqJ{n:Int}{x y:SP}{ad:U5}(h:cr g=some (f,#[.pointer (some ad),x,y])) (he:Ext P f XN) (hc:w.cell? ad=some (.int .u32 n)) (hz:w.frozen? ad=false):
  stepG P main g w=.go (fin g (.tuple #[])) (w.setCell ad (.int .u32 (ah_.wrap (n+1)))) (semEvents ad):=by
 obtain⟨o,aE,l_,h1,h2,h3⟩:=cr.out h;obtain⟨b,a,ops,i,rest,kk,cs,e,q1,q2,q3,q4,q5,q6,_⟩:=ready.out h1;obtain⟨fn,f1,f2,f3,f4,f5⟩:=he.fn;rw[<- q4]at h3;rw[<- q5];refine VJ (congrArg (λx=>stepG P main x w) e) ?_;exact stepG_semrelease q1 q2 q3 h2 f1 f2 f3 f4 f5 (by rw[h3];rfl) hc hz
theorem aqI{n:Int}{x:SP}{ad:U5}(h:cr g=some (f,#[.pointer (some ad),x])) (he:Ext P f WG) (hc:w.cell? ad=some (.int .u32 n)) (hn:n≠0) (hz:w.frozen? ad=false):
  stepG P main g w=.go (fin g (.tuple #[])) (w.setCell ad (.int .u32 (n-1))) (semEvents ad):=by
 obtain⟨o,aE,l_,h1,h2,h3⟩:=cr.out h;obtain⟨b,a,ops,i,rest,kk,cs,e,q1,q2,q3,q4,q5,q6,_⟩:=ready.out h1;obtain⟨fn,f1,f2,f3,f4,f5⟩:=he.fn;rw[<- q4]at h3;rw[<- q5];refine VJ (congrArg (λx=>stepG P main x w) e) ?_;exact stepG_semacquire q1 q2 q3 h2 f1 f2 f3 f4 f5 (by rw[h3];rfl) hc hn hz
theorem aqK{x:SP}{ad:U5}(h:cr g=some (f,#[.pointer (some ad),x])) (he:Ext P f WG) (hc:w.cell? ad=some (.int .u32 0)):
  stepG P main g w=.go {g with status:=.blocked} w #[]:=by
 obtain⟨o,aE,l_,h1,h2,h3⟩:=cr.out h;obtain⟨b,a,ops,i,rest,kk,cs,e,q1,q2,q3,q4,q5,q6,_⟩:=ready.out h1;obtain⟨fn,f1,f2,f3,f4,f5⟩:=he.fn;rw[<- q4]at h3;rw[e];exact stepG_semacquire_wait q1 q2 h2 f1 f2 f3 f4 f5 (by rw[h3];rfl) hc
theorem Hp{ad:U5}(mk:U5->Mark)(hm:∀ad g,mk ad≠ .extern g)(h:cr g=some (f,#[.pointer (some ad)])) (he:Ext P f (VI mk)):
  stepG P main g w=.go (fin g (.tuple #[])) w #[⟨.mark (mk ad),false,true⟩]:=by
 obtain⟨o,aE,l_,h1,h2,h3⟩:=cr.out h;obtain⟨b,a,ops,i,rest,kk,cs,e,q1,q2,q3,q4,q5,q6,_⟩:=ready.out h1;obtain⟨fn,f1,f2,f3,f4,f5⟩:=he.fn;rw[<- q4]at h3;rw[<- q5];refine VJ (congrArg (λx=>stepG P main x w) e) ?_;exact stepG_markAt mk hm q1 q2 q3 h2 f1 f2 f3 f4 f5 (by rw[h3];rfl)
def oY (g:SG):Option (TypeId×TypeId×SP):=match ready g with
 |some {op:=.convert s d x, .. }=>some (s,d,g.frame.eval x)
 |_=>none
theorem Hq{src dst t:TypeId}{ad:U5}{v:SP}(h:oY g=some (src,dst,.pointer (some ad)))(hs:P.underlying src=some (.pointer t))(hd:P.underlying dst=some .unsafePointer)(aV:(P.info? t).map (λi=>decide (i.size=0))=some false)(hc:w.cell? ad=some v):
  stepG P main g w=.go (fin g (.pointer (some ad))) w #[]:=by
 obtain⟨o,x,h1,h2,h3⟩:∃o x,ready g=some o/\o.op=.convert src dst x/\g.frame.eval x=.pointer (some ad):=by
  unfold oY at h;split at h
  ·rename_i s d x _ _ _ _ ho;simp only[Tj,U2]at h;obtain⟨rfl,rfl,h⟩:=h;exact⟨_,x,ho,rfl,h⟩
  ·cases h
 obtain⟨b,a,ops,i,rest,kk,cs,e,q1,q2,q3,q4,q5,q6,_⟩:=ready.out h1;rw[<- q4]at h3;rw[<- q5];refine VJ (congrArg (λx=>stepG P main x w) e) ?_;have hr:(execOp a.eval o).run P w=.ok (.value (.pointer (some ad))) w:=by
  unfold execOp;simp only[h2,h3];simp[run_convert_to_unsafe hs hd aV hc]
 have cu:(execOp a.eval o).events P w #[]=#[]:=by
  unfold execOp;simp only[h2,h3];simp[events_convert_to_unsafe hs hd aV hc]
 rw[at2 q1 q2 q3 hr];unfold listed;rw[cu,Z8]
end
open Go.Proofs
section
variable {P:SI}
theorem Nw{Stop:Nat->SG->Prop}{d:Nat}{g g':SG}{es:Array Ur}(hr:g.status=.running)(hm:∀e∈es,WH e=true)(h:∀w,stepG P false g w=.go g' w es)(hs:∃m,cS P Stop m (deafBehind d es) g'):∃m,cS P Stop m d g:=by
 obtain⟨m,hs⟩:=hs;exact⟨m+1,.inr ⟨hr,g',es,hm,h,hs⟩⟩
theorem Ho{main:Bool}{g:SG}{f:TO}{w:Tp}{m:Mark}(hm:∀g,m≠ .extern g)(h:cr g=some (f,#[])) (he:Ext P f (λ_=>do ac_ m;pure W5)):stepG P main g w=.go (fin g (.tuple #[])) w #[⟨.mark m,false,true⟩]:=by
 obtain⟨o,xs,l_,h1,h2,h3⟩:=cr.out h;obtain⟨b,a,ops,i,rest,kk,cs,e,q1,q2,q3,q4,q5,q6,_⟩:=ready.out h1;obtain⟨fn,f1,f2,f3,f4,f5⟩:=he.fn;rw[<- q4]at h3;rw[<- q5];refine VJ (congrArg (λx=>stepG P main x w) e) ?_;exact stepG_mark0 m hm q1 q2 q3 h2 f1 f2 f3 f4 f5
theorem acG{main:Bool}{g:SG}{f:TO}{w:Tp}{v:SP}{vs:Array SP}(h:cr g=some (f,vs))(he:Ext P f (λ_=>pure v)):stepG P main g w=.go (fin g v) w #[]:=by
 obtain⟨o,xs,l_,h1,h2,h3⟩:=cr.out h;obtain⟨b,a,ops,i,rest,kk,cs,e,q1,q2,q3,q4,q5,q6,_⟩:=ready.out h1;obtain⟨fn,f1,f2,f3,f4,f5⟩:=he.fn;rw[<- q5];refine VJ (congrArg (λx=>stepG P main x w) e) ?_;exact stepG_entry_pure v q1 q2 q3 h2 f1 f2 f3 f4 f5
theorem WgAt.st{Wg:Nat}{w:Tp}{st sm:Int}(h:WgAt P Wg w st sm):w.cell? ⟨Wg,0,none⟩=some (.int .u64 st)/\w.cell? ⟨Wg,1,none⟩=some (.int .u32 sm)/\w.frozen? ⟨Wg,0,none⟩=false/\w.frozen? ⟨Wg,1,none⟩=false:=by
 unfold WgAt wgBlock at h;refine⟨?_,?_,?_,?_⟩<;>simp[Uz,ZP,h]
theorem MF{m:Mark}(hm:m=.disable\/m=.enable):∀e∈(#[⟨.mark m,false,true⟩]:Array Ur),WH e=true:=by
 intro e he;simp only[TK,SK,S0,or_false]at he;subst he;rcases hm with rfl|rfl<;>rfl
end
set_option maxRecDepth 100000
theorem agZ:Ext SA 110 (VI .releaseMerge):=⟨⟨Tryz.f110,by kernel_rfl,by kernel_rfl,by kernel_rfl,by kernel_rfl,by kernel_rfl⟩⟩
theorem I1:Ext SA 111 (λ_=>do ac_ .disable;pure W5):=⟨⟨Tryz.f111,by kernel_rfl,by kernel_rfl,by kernel_rfl,by kernel_rfl,by kernel_rfl⟩⟩
theorem ag0:Ext SA 112 (λ_=>do ac_ .enable;pure W5):=⟨⟨Tryz.f112,by kernel_rfl,by kernel_rfl,by kernel_rfl,by kernel_rfl,by kernel_rfl⟩⟩
theorem PI:Ext SA 113 (λ_=>pure (.bool false)):=⟨⟨Tryz.f113,by kernel_rfl,by kernel_rfl,by kernel_rfl,by kernel_rfl,by kernel_rfl⟩⟩
theorem ag1:Ext SA 118 (VI .read):=⟨⟨Tryz.f118,by kernel_rfl,by kernel_rfl,by kernel_rfl,by kernel_rfl,by kernel_rfl⟩⟩
theorem ag3:Ext SA 122 XN:=⟨⟨Tryz.f122,by kernel_rfl,by kernel_rfl,by kernel_rfl,by kernel_rfl,by kernel_rfl⟩⟩
theorem ag4:Ext SA 123 (VI .acquire):=⟨⟨Tryz.f123,by kernel_rfl,by kernel_rfl,by kernel_rfl,by kernel_rfl,by kernel_rfl⟩⟩
theorem ag5:Ext SA 126 (VI .write):=⟨⟨Tryz.f126,by kernel_rfl,by kernel_rfl,by kernel_rfl,by kernel_rfl,by kernel_rfl⟩⟩
theorem PJ:Ext SA 127 WG:=⟨⟨Tryz.f127,by kernel_rfl,by kernel_rfl,by kernel_rfl,by kernel_rfl,by kernel_rfl⟩⟩
theorem PK:Ext SA 134 (XO (auc .add) .u64 true):=⟨⟨Tryz.f134,by kernel_rfl,by kernel_rfl,by kernel_rfl,by kernel_rfl,by kernel_rfl⟩⟩
theorem I2:Ext SA 135 (XX (.int .u64)):=⟨⟨Tryz.f135,by kernel_rfl,by kernel_rfl,by kernel_rfl,by kernel_rfl,by kernel_rfl⟩⟩
theorem ag6:Ext SA 136 XP:=⟨⟨Tryz.f136,by kernel_rfl,by kernel_rfl,by kernel_rfl,by kernel_rfl,by kernel_rfl⟩⟩
theorem PL:Ext SA 137 (WU (.int .u64)):=⟨⟨Tryz.f137,by kernel_rfl,by kernel_rfl,by kernel_rfl,by kernel_rfl,by kernel_rfl⟩⟩
theorem adm:SA.underlying 158=some (.pointer 147):=by kernel_rfl
theorem Hy:SA.underlying 160=some .unsafePointer:=by kernel_rfl
theorem i182:(SA.info? 147).map (λi=>decide (i.size=0))=some false:=by kernel_rfl
noncomputable def apB:Ua:={(default:Ua)with fn:=184,defers:=[],mode:=.panicking [goexitEntry]}
noncomputable def apx (fn:TO)(tmps:Array SP)(todo:List WT):Ua:={fn,tmps,todo,defers:=[],mode:=.returning,kind:=.deferred,roundOf:=none}
noncomputable def pW (Wg o:Nat):SP:=.pointer (some ⟨Wg,o,none⟩)
section
variable (Wg:Nat)(tmps:Array SP)(todo:List WT)
noncomputable def d0:SG:=G (Frame.enter SA 98 #[pW Wg 0] .deferred) [apx 97 tmps todo,apB]
noncomputable def d14:SG:=cE SA false 14 (d0 Wg tmps todo)
noncomputable def d15:SG:=fin (d14 Wg tmps todo) (pW Wg 0)
noncomputable def d16:SG:=fin (d15 Wg tmps todo) (.tuple #[])
noncomputable def d19:SG:=cE SA false 3 (d16 Wg tmps todo)
noncomputable def d20:SG:=fin (d19 Wg tmps todo) (.tuple #[])
noncomputable def d31:SG:=cE SA false 11 (d20 Wg tmps todo)
noncomputable def d32:SG:=fin (d31 Wg tmps todo) (.bool false)
noncomputable def d54:SG:=cE SA false 22 (d32 Wg tmps todo)
noncomputable def d55 (s:Int):SG:=fin (d54 Wg tmps todo) (.int .u64 s)
noncomputable def d158:SG:=cE SA false 103 (d55 Wg tmps todo 1)
noncomputable def d159:SG:=fin (d158 Wg tmps todo) (.int .u64 1)
noncomputable def d179:SG:=cE SA false 20 (d159 Wg tmps todo)
noncomputable def d180:SG:=fin (d179 Wg tmps todo) (.tuple #[])
noncomputable def BS:SG:=cE SA false 27 (d180 Wg tmps todo)
noncomputable def zl:SG:=fin (BS Wg tmps todo) (.tuple #[])
set_option maxRecDepth 100000
variable (w:Tp)
theorem x0:(fL SA false w 14 (d0 Wg tmps todo),oI SA false 14 (d0 Wg tmps todo),bN (d14 Wg tmps todo),bN (d15 Wg tmps todo))=(fC SA false w 14 (d0 Wg tmps todo),true,true,true):=by kernel_rfl
theorem x14:oY (d14 Wg tmps todo)=some (158,160,pW Wg 0):=by kernel_rfl
theorem x15:cr (d15 Wg tmps todo)=some (110,#[pW Wg 0]):=by kernel_rfl
theorem HM:(fL SA false w 3 (d16 Wg tmps todo),iW SA false 3 (d16 Wg tmps todo),bN (d19 Wg tmps todo),jW SA false 3 0 (d16 Wg tmps todo))=(fC SA false w 3 (d16 Wg tmps todo),true,true,0):=by kernel_rfl
theorem x19:cr (d19 Wg tmps todo)=some (111,#[]):=by kernel_rfl
theorem HO:(fL SA false w 11 (d20 Wg tmps todo),iW SA false 11 (d20 Wg tmps todo),bN (d31 Wg tmps todo),jW SA false 11 1 (d20 Wg tmps todo))=(fC SA false w 11 (d20 Wg tmps todo),true,true,1):=by kernel_rfl
theorem x31:cr (d31 Wg tmps todo)=some (113,#[]):=by kernel_rfl
theorem HQ:(fL SA false w 22 (d32 Wg tmps todo),iW SA false 22 (d32 Wg tmps todo),bN (d54 Wg tmps todo),jW SA false 22 1 (d32 Wg tmps todo))=(fC SA false w 22 (d32 Wg tmps todo),true,true,1):=by kernel_rfl
theorem x54:cr (d54 Wg tmps todo)=some (134,#[pW Wg 0,.int .u64 18446744069414584320]):=by kernel_rfl
theorem q30:(fL SA false w 94 (d55 Wg tmps todo (3* 4294967296)),iW SA false 94 (d55 Wg tmps todo (3* 4294967296)),(cE SA false 94 (d55 Wg tmps todo (3* 4294967296))).status,jW SA false 94 1 (d55 Wg tmps todo (3* 4294967296)))=(fC SA false w 94 (d55 Wg tmps todo (3* 4294967296)),true,.finished,0):=by kernel_rfl
theorem q31:(fL SA false w 94 (d55 Wg tmps todo (3* 4294967296+1)),iW SA false 94 (d55 Wg tmps todo (3* 4294967296+1)),(cE SA false 94 (d55 Wg tmps todo (3* 4294967296+1))).status,jW SA false 94 1 (d55 Wg tmps todo (3* 4294967296+1)))=(fC SA false w 94 (d55 Wg tmps todo (3* 4294967296+1)),true,.finished,0):=by kernel_rfl
theorem q20:(fL SA false w 94 (d55 Wg tmps todo (2* 4294967296)),iW SA false 94 (d55 Wg tmps todo (2* 4294967296)),(cE SA false 94 (d55 Wg tmps todo (2* 4294967296))).status,jW SA false 94 1 (d55 Wg tmps todo (2* 4294967296)))=(fC SA false w 94 (d55 Wg tmps todo (2* 4294967296)),true,.finished,0):=by kernel_rfl
theorem q21:(fL SA false w 94 (d55 Wg tmps todo (2* 4294967296+1)),iW SA false 94 (d55 Wg tmps todo (2* 4294967296+1)),(cE SA false 94 (d55 Wg tmps todo (2* 4294967296+1))).status,jW SA false 94 1 (d55 Wg tmps todo (2* 4294967296+1)))=(fC SA false w 94 (d55 Wg tmps todo (2* 4294967296+1)),true,.finished,0):=by kernel_rfl
theorem q10:(fL SA false w 94 (d55 Wg tmps todo (1* 4294967296)),iW SA false 94 (d55 Wg tmps todo (1* 4294967296)),(cE SA false 94 (d55 Wg tmps todo (1* 4294967296))).status,jW SA false 94 1 (d55 Wg tmps todo (1* 4294967296)))=(fC SA false w 94 (d55 Wg tmps todo (1* 4294967296)),true,.finished,0):=by kernel_rfl
theorem q11:(fL SA false w 94 (d55 Wg tmps todo (1* 4294967296+1)),iW SA false 94 (d55 Wg tmps todo (1* 4294967296+1)),(cE SA false 94 (d55 Wg tmps todo (1* 4294967296+1))).status,jW SA false 94 1 (d55 Wg tmps todo (1* 4294967296+1)))=(fC SA false w 94 (d55 Wg tmps todo (1* 4294967296+1)),true,.finished,0):=by kernel_rfl
theorem q00:(fL SA false w 94 (d55 Wg tmps todo 0),iW SA false 94 (d55 Wg tmps todo 0),(cE SA false 94 (d55 Wg tmps todo 0)).status,jW SA false 94 1 (d55 Wg tmps todo 0))=(fC SA false w 94 (d55 Wg tmps todo 0),true,.finished,0):=by kernel_rfl
theorem HR:(fL SA false w 103 (d55 Wg tmps todo 1),iW SA false 103 (d55 Wg tmps todo 1),bN (d158 Wg tmps todo),jW SA false 103 1 (d55 Wg tmps todo 1))=(fC SA false w 103 (d55 Wg tmps todo 1),true,true,1):=by kernel_rfl
theorem asm:cr (d158 Wg tmps todo)=some (135,#[pW Wg 0]):=by kernel_rfl
theorem HL:(fL SA false w 20 (d159 Wg tmps todo),iW SA false 20 (d159 Wg tmps todo),bN (d179 Wg tmps todo),jW SA false 20 1 (d159 Wg tmps todo))=(fC SA false w 20 (d159 Wg tmps todo),true,true,1):=by kernel_rfl
theorem asn:cr (d179 Wg tmps todo)=some (136,#[pW Wg 0,.int .u64 0]):=by kernel_rfl
theorem HN:(fL SA false w 27 (d180 Wg tmps todo),iW SA false 27 (d180 Wg tmps todo),bN (BS Wg tmps todo),jW SA false 27 1 (d180 Wg tmps todo))=(fC SA false w 27 (d180 Wg tmps todo),true,true,1):=by kernel_rfl
theorem aso:cr (BS Wg tmps todo)=some (122,#[pW Wg 1,.bool false,.int .i64 0]):=by kernel_rfl
theorem HP:(fL SA false w 24 (zl Wg tmps todo),iW SA false 24 (zl Wg tmps todo),(cE SA false 24 (zl Wg tmps todo)).status,jW SA false 24 1 (zl Wg tmps todo))=(fC SA false w 24 (zl Wg tmps todo),true,.finished,0):=by kernel_rfl
theorem xm:mayWake SA (BS Wg tmps todo)=true:=by kernel_rfl
end
section
variable (Wg:Nat)(tmps:Array SP)(todo:List WT)
theorem dT{α β γ δ:Type}{a a':α}{b b':β}{c c':γ}{d d':δ}(h:(a,b,c,d)=(a',b',c',d')):a=a'/\b=b'/\c=c'/\d=d':=by
 simpa[U2]using h
theorem xn{s:Int}(h:∀w,(fL SA false w 94 (d55 Wg tmps todo s),iW SA false 94 (d55 Wg tmps todo s),(cE SA false 94 (d55 Wg tmps todo s)).status,jW SA false 94 1 (d55 Wg tmps todo s))=(fC SA false w 94 (d55 Wg tmps todo s),true,.finished,0)):∃q,Y4 SA q 1 (d55 Wg tmps todo s):=
 Ha 94 1 _ (λw=>(dT (h w)).1) (dT (h default)).2.1 (Nj (dT (h default)).2.2.1 (dT (h default)).2.2.2)
theorem agR:Eh SA Wg 1 (BS Wg tmps todo):=by
 refine⟨rfl,bN.out (dT (HN Wg tmps todo default)).2.2.1,xm Wg tmps todo,zl Wg tmps todo,λw hw=> ?_,?_⟩
 ·exact aqJ (n:=0) (aso Wg tmps todo) ag3 hw.st.2.1 hw.st.2.2.2
 ·exact Ha 24 1 _ (λw=>(dT (HP Wg tmps todo w)).1) (dT (HP Wg tmps todo default)).2.1 (Nj (dT (HP Wg tmps todo default)).2.2.1 (dT (HP Wg tmps todo default)).2.2.2)
theorem agS:Ei SA Wg 1 (d179 Wg tmps todo):=by
 refine⟨rfl,bN.out (dT (HL Wg tmps todo default)).2.2.1,d180 Wg tmps todo,λw hw=> ?_,?_⟩
 ·exact aqL (asn Wg tmps todo) ag6 hw.st.1 hw.st.2.2.1
 ·refine wN 27 1 _ (λw=>(dT (HN Wg tmps todo w)).1) (dT (HN Wg tmps todo default)).2.1 ?_;rw[(dT (HN Wg tmps todo default)).2.2.2];exact⟨0,agR Wg tmps todo⟩
theorem agQ:Eg SA Wg 1 (d158 Wg tmps todo):=by
 refine⟨rfl,bN.out (dT (HR Wg tmps todo default)).2.2.1,d159 Wg tmps todo,λw hw=> ?_,?_⟩
 ·exact NB (asm Wg tmps todo) I2 hw.st.1
 ·refine wN 20 1 _ (λw=>(dT (HL Wg tmps todo w)).1) (dT (HL Wg tmps todo default)).2.1 ?_;rw[(dT (HL Wg tmps todo default)).2.2.2];exact⟨0,agS Wg tmps todo⟩
theorem agO:Ba SA Wg 1 (d54 Wg tmps todo):=by
 refine⟨rfl,bN.out (dT (HQ Wg tmps todo default)).2.2.1,λv wt uW hv=>⟨d55 Wg tmps todo ((v:Int)* KK+wt),λw hw=> ?_,λh=> ?_,λh=> ?_⟩⟩
 ·have e:TA.wrap ((((v+1:Nat):Int)* KK+wt)+18446744069414584320)=(v:Int)* KK+wt:=by
   have h1:TA.bits=64:=rfl;have h2:TA.signed=false:=rfl;unfold Xa KK;rw[h1,h2];simp;omega
  have:=acF (P:=SA) (main:=false) (w:=w) (x54 Wg tmps todo) PK hw.st.1 hw.st.2.2.1;rw[e]at this;exact this
 ·obtain⟨rfl,rfl⟩:=h;refine wN 103 1 _ (λw=>(dT (HR Wg tmps todo w)).1) (dT (HR Wg tmps todo default)).2.1 ?_;have e:=(dT (HR Wg tmps todo default)).2.2.2;exact⟨0,by rw[show (((0:Nat):Int)* KK+((1:Nat):Int))=1 from rfl,e];exact agQ Wg tmps todo⟩
 ·have hv4:v=0\/v=1\/v=2\/v=3:=by omega
  have fh:wt=0\/wt=1:=by omega
  rcases hv4 with rfl|rfl|rfl|rfl<;>rcases fh with rfl|rfl
  ·exact xn Wg tmps todo (q00 Wg tmps todo)
  ·exact absurd ⟨rfl,rfl⟩ h
  ·exact xn Wg tmps todo (q10 Wg tmps todo)
  ·exact xn Wg tmps todo (q11 Wg tmps todo)
  ·exact xn Wg tmps todo (q20 Wg tmps todo)
  ·exact xn Wg tmps todo (q21 Wg tmps todo)
  ·exact xn Wg tmps todo (q30 Wg tmps todo)
  ·exact xn Wg tmps todo (q31 Wg tmps todo)
theorem agP:En SA Wg (d15 Wg tmps todo):=by
 refine⟨bN.out (dT (x0 Wg tmps todo default)).2.2.2,d16 Wg tmps todo,λw=>Hp .releaseMerge (λ_ _ h=>by cases h) (x15 Wg tmps todo) agZ,?_⟩;refine wN 3 0 _ (λw=>(dT (HM Wg tmps todo w)).1) (dT (HM Wg tmps todo default)).2.1 ?_;rw[(dT (HM Wg tmps todo default)).2.2.2];refine Nw (g:=d19 Wg tmps todo) (g':=d20 Wg tmps todo) (bN.out (dT (HM Wg tmps todo default)).2.2.1) (MF (.inl rfl)) (λw=>Ho (λ_ h=>by cases h) (x19 Wg tmps todo) I1) ?_;refine wN 11 1 (d20 Wg tmps todo) (λw=>(dT (HO Wg tmps todo w)).1) (dT (HO Wg tmps todo default)).2.1 ?_;rw[(dT (HO Wg tmps todo default)).2.2.2];refine Nw (es:=#[]) (g:=d31 Wg tmps todo) (g':=d32 Wg tmps todo) (bN.out (dT (HO Wg tmps todo default)).2.2.1) (by simp) (λw=>acG (x31 Wg tmps todo) PI) ?_;refine wN 22 1 (d32 Wg tmps todo) (λw=>(dT (HQ Wg tmps todo w)).1) (dT (HQ Wg tmps todo default)).2.1 ?_;rw[(dT (HQ Wg tmps todo default)).2.2.2];exact⟨0,agO Wg tmps todo⟩
theorem agT{J:View->SG->Prop}(C:yO SA false J){V:View}{c:Nat}(hr:V.role=.work c Wg [])(hd:V.deaf=0):J V (d0 Wg tmps todo):=by
 have C':Closed false SA false J:={C with more:=λh=>by cases h};have hx:=dT (x0 Wg tmps todo default);refine tM C' 14 _ (λw=>(dT (x0 Wg tmps todo w)).1) hx.2.1 ?_;refine C.slip V _ (d15 Wg tmps todo) c Wg hr (bN.out hx.2.2.1) (λw st hw hW=> ?_) (C.done V _ c Wg hr hd (agP Wg tmps todo));exact Hq (x14 Wg tmps todo) adm Hy i182 hW.st.1
end
section
variable (Wg:Nat)(cs:List Ua)(main:Bool)
noncomputable def a0:SG:=G (Frame.enter SA 96 #[pW Wg 0,.int .i64 1] .normal) cs
noncomputable def Ey:SG:=cE SA main 12 (a0 Wg cs)
noncomputable def Bw:SG:=fin (Ey Wg cs main) (.tuple #[])
noncomputable def Ez:SG:=cE SA main 11 (Bw Wg cs main)
noncomputable def By:SG:=fin (Ez Wg cs main) (.bool false)
noncomputable def EA:SG:=cE SA main 22 (By Wg cs main)
noncomputable def m9 (s:Int):SG:=fin (EA Wg cs main) (.int .u64 s)
noncomputable def m8 (s:Int):SG:=cE SA main 87 (m9 Wg cs main s)
noncomputable def Ie:SG:=cE SA main 52 (m9 Wg cs main 4294967296)
noncomputable def Bu:SG:=fin (Ie Wg cs main) (pW Wg 1)
noncomputable def Bv:SG:=fin (Bu Wg cs main) (.tuple #[])
noncomputable def Bx:SG:=cE SA main 39 (Bv Wg cs main)
set_option maxRecDepth 100000
variable (w:Tp)
theorem y0:(fL SA main w 12 (a0 Wg cs),oI SA main 12 (a0 Wg cs),bN (Ey Wg cs main),cr (Ey Wg cs main))=(fC SA main w 12 (a0 Wg cs),true,true,some (111,#[])):=by kernel_rfl
theorem y13:(fL SA main w 11 (Bw Wg cs main),oI SA main 11 (Bw Wg cs main),bN (Ez Wg cs main),cr (Ez Wg cs main))=(fC SA main w 11 (Bw Wg cs main),true,true,some (113,#[])):=by kernel_rfl
theorem y25:(fL SA main w 22 (By Wg cs main),oI SA main 22 (By Wg cs main),bN (EA Wg cs main),cr (EA Wg cs main))=(fC SA main w 22 (By Wg cs main),true,true,some (134,#[pW Wg 0,.int .u64 4294967296])):=by kernel_rfl
noncomputable def yo (g:SG):ZA×U_×Nat×Xc×List UY×Bool:=(.go (gw SA main g) w #[⟨.mark .enable,false,true⟩],(gw SA main g).frame.mode,(gw SA main g).frame.fn,(gw SA main g).frame.kind,(gw SA main g).frame.defers,bN (gw SA main g))
theorem N4:(fL SA main w 87 (m9 Wg cs main (2* 4294967296)),oI SA main 87 (m9 Wg cs main (2* 4294967296)),bN (m8 Wg cs main (2* 4294967296)),yo main w (m8 Wg cs main (2* 4294967296)))=(fC SA main w 87 (m9 Wg cs main (2* 4294967296)),true,true,stepG SA main (m8 Wg cs main (2* 4294967296)) w,.returning,96,.normal,[],true):=by kernel_rfl
theorem N5:(fL SA main w 87 (m9 Wg cs main (3* 4294967296)),oI SA main 87 (m9 Wg cs main (3* 4294967296)),bN (m8 Wg cs main (3* 4294967296)),yo main w (m8 Wg cs main (3* 4294967296)))=(fC SA main w 87 (m9 Wg cs main (3* 4294967296)),true,true,stepG SA main (m8 Wg cs main (3* 4294967296)) w,.returning,96,.normal,[],true):=by kernel_rfl
theorem N6:(fL SA main w 87 (m9 Wg cs main (4* 4294967296)),oI SA main 87 (m9 Wg cs main (4* 4294967296)),bN (m8 Wg cs main (4* 4294967296)),yo main w (m8 Wg cs main (4* 4294967296)))=(fC SA main w 87 (m9 Wg cs main (4* 4294967296)),true,true,stepG SA main (m8 Wg cs main (4* 4294967296)) w,.returning,96,.normal,[],true):=by kernel_rfl
theorem adA:(fL SA main w 52 (m9 Wg cs main 4294967296),oI SA main 52 (m9 Wg cs main 4294967296),bN (Ie Wg cs main),oY (Ie Wg cs main))=(fC SA main w 52 (m9 Wg cs main 4294967296),true,true,some (165,160,pW Wg 1)):=by kernel_rfl
theorem asp:cr (Bu Wg cs main)=some (118,#[pW Wg 1]):=by kernel_rfl
theorem N3:(fL SA main w 39 (Bv Wg cs main),oI SA main 39 (Bv Wg cs main),bN (Bx Wg cs main),yo main w (Bx Wg cs main))=(fC SA main w 39 (Bv Wg cs main),true,true,stepG SA main (Bx Wg cs main) w,.returning,96,.normal,[],true):=by kernel_rfl
theorem yr1:bN (Bu Wg cs main)=true:=by kernel_rfl
theorem Hz:∃t,SA.underlying 165=some (.pointer t)/\(SA.info? t).map (λi=>decide (i.size=0))=some false:=⟨145,by kernel_rfl,by kernel_rfl⟩
theorem ahV:∃fn,SA.funcs[96]?=some fn/\fn.results=#[]:=⟨Tryz.f96,by kernel_rfl,by kernel_rfl⟩
end
section
variable {P:SI}{V:View}
theorem aqT{w:Tp}{b o:Nat}{v:SP}{c:Array SP}{el:TypeId}(hw:Sat V w)(ho:V.own b=some (.cells c el (0,0)))(cC:V.ab b o=none)(Kx:V.role.chan≠some b):
  dg V w (V.upd b (.cells (c.setIfInBounds o v) el (0,0))) (w.setCell ⟨b,o,none⟩ v) #[⟨.cell ⟨b,o,none⟩,false,true⟩,⟨.cell ⟨b,o,none⟩,true,true⟩]:=by
 refine⟨hw.adq ho cC,rfl,rfl,rfl,by rw[DT];exact SQ _,λb' dD e=>wh _ _ _ (λx=> ?_),λb' dD e=> ?_,λ_ _ _ e=>e,λ_ _ _ e=> .inl e,λev cu=> ?_,by simp[deafBehind];rfl,rfl,λc' x bm e=>by rw[<- e];simp only[View.upd,ite_eq_right_iff];intro x';subst x';exact absurd bm Kx,λev cu=> ?_⟩
 ·have x':b=b':=x;subst x';rw[ho]at e;cases e
 ·have:b'≠b:=by intro x;subst x;rw[ho]at e;cases e
  simp only[View.upd,this,if_false];exact e
 ·simp only[TK,SK,S0,or_false]at cu;rcases cu with rfl|rfl
  ·exact⟨.inr (.inl (by show V.own b≠none;rw[ho];simp)),.inl rfl⟩
  ·exact⟨.inr ⟨by show V.own b≠none;rw[ho];simp,cC⟩,.inl rfl⟩
 ·simp only[TK,SK,S0,or_false]at cu;rcases cu with rfl|rfl<;>(show b<_;rw[DT];exact hw.lt ho)
theorem Closed.said{lv main:Bool}{J:View->SG->Prop}(C:Closed lv P main J){g g':SG}{a:U5}(hr:g.status=.running)(ha:V.own a.block≠none/\V.ab a.block a.off=none)(h:∀w,stepG P main g w=.go g' w #[⟨.mark (.read a),false,true⟩]) (hJ:J V g'):J V g:=by
 refine C.step _ _ hr λw hw=> ?_;have hs:=aqf (P:=P) (V:=V) (k:=(.pure ():Sem Unit)) (K:=λ_ V'=>V'=V) (Kp:=λ_ _=>False) (m:=.read a) (.inl rfl) ha (cI rfl);obtain⟨es,w',V',k1,k2,k3⟩:=hs.runs hw;rcases k3 with⟨x,k3,rfl⟩|⟨_,_,hx⟩
 ·have e1:Yd () w=Yd x w':=k3;have e2:es=#[⟨.mark (.read a),false,true⟩]:=k2.symm;cases e1;subst e2;refine⟨g',w,_,_,h w,?_,hJ⟩;rwa [tQ (by simp)]at k1
 ·exact hx.elim
end
section
variable (Wg:Nat)(cs:List Ua)(main:Bool)
set_option maxRecDepth 100000
theorem yG2:gw SA main (m8 Wg cs main (2* 4294967296))=G (gw SA main (m8 Wg cs main (2* 4294967296))).frame cs:=by kernel_rfl
theorem yG3:gw SA main (m8 Wg cs main (3* 4294967296))=G (gw SA main (m8 Wg cs main (3* 4294967296))).frame cs:=by kernel_rfl
theorem yG4:gw SA main (m8 Wg cs main (4* 4294967296))=G (gw SA main (m8 Wg cs main (4* 4294967296))).frame cs:=by kernel_rfl
theorem yG1:gw SA main (Bx Wg cs main)=G (gw SA main (Bx Wg cs main)).frame cs:=by kernel_rfl
end
theorem kQ{α β γ δ:Type}{a a':α}{b b':β}{c c':γ}{d d':δ}(h:(a,b,c,d)=(a',b',c',d')):a=a'/\b=b'/\c=c'/\d=d':=by
 simpa[U2]using h
section
variable {lv main:Bool}{J:View->SG->Prop}{V:View}{cs:List Ua}
theorem ED(C:Closed lv SA main J){g:SG}{U:View}(bH:bN g=true)(h:∀w,(Go.Gg.yo main w g)=(stepG SA main g w,.returning,96,.normal,[],true))(hG:gw SA main g=G (gw SA main g).frame cs)
  (hU:U={V with deaf:=deafBehind V.deaf #[⟨.mark .enable,false,true⟩]}) (hJ:∀fr,Leaves SA fr 96 .normal (.ret (.tuple #[])) U->J U (G fr cs)):J V g:=by
 refine C.mute (.inr rfl) (bN.out bH) (λw=> ?_) (g':=gw SA main g) ?_
 ·have:=h w;simp only[Go.Gg.yo,U2]at this;exact this.1.symm
 ·have:=h default;simp only[Go.Gg.yo,U2]at this;obtain⟨_,h1,h2,h3,h4,_⟩:=this;rw[hG,<- hU];refine hJ _ ⟨h2,h4,h3,?_⟩;obtain⟨fn,hf,hr⟩:=ahV;exact⟨fn,hf,h1,results_none hr⟩
theorem aeE{n Wg:Nat}{sm:TypeId}(hn:n<4)(hW:V.own Wg=some (.cells #[.int .u64 ((n:Int)* KK),.int .u32 0] sm (0,0))) (hi:∀o,V.ab Wg o=none) (hc:V.role.chan≠some Wg) (hd:V.deaf=0):
  Body lv SA 96 #[pW Wg 0,.int .i64 1] .normal V (λo V'=>o=.ret (.tuple #[])/\V'=V.upd Wg (.cells #[.int .u64 (((n+1:Nat):Int)* KK),.int .u32 0] sm (0,0))):=by
 intro main J C cs hJ;have hA:=kQ (y0 Wg cs main default);show J V (a0 Wg cs);refine tM C 12 _ (λw=>(kQ (y0 Wg cs main w)).1) hA.2.1 ?_;refine C.mute (g:=Ey Wg cs main) (g':=Bw Wg cs main) (.inl rfl) (bN.out hA.2.2.1) (λw=>Ho (λ_ h=>by cases h) hA.2.2.2 I1) ?_;have hB:=kQ (y13 Wg cs main default);refine tM C 11 _ (λw=>(kQ (y13 Wg cs main w)).1) hB.2.1 ?_;refine C.idle (g:=Ez Wg cs main) (g':=By Wg cs main) (bN.out hB.2.2.1) (λw=>acG hB.2.2.2 PI) ?_;have hC:=kQ (y25 Wg cs main default);refine tM C 22 _ (λw=>(kQ (y25 Wg cs main w)).1) hC.2.1 ?_;let V1:View:={V with deaf:=deafBehind V.deaf #[⟨.mark .disable,false,true⟩]};let V2:View:=V1.upd Wg (.cells #[.int .u64 (((n+1:Nat):Int)* KK),.int .u32 0] sm (0,0));have zD:{V2 with deaf:=deafBehind V2.deaf #[⟨.mark .enable,false,true⟩]}=V.upd Wg (.cells #[.int .u64 (((n+1:Nat):Int)* KK),.int .u32 0] sm (0,0)):=by
  obtain⟨i,o,d,r⟩:=V;have:d=0:=hd;subst this;rfl
 show J V1 (EA Wg cs main);refine C.step _ _ (bN.out hC.2.2.1) λw hw=> ?_;have hh:=hw.own Wg _ hW;have dn:w.cell? ⟨Wg,0,none⟩=some (.int .u64 ((n:Int)* KK)):=by simp[Uz,hh]
 have iF:w.frozen? ⟨Wg,0,none⟩=false:=by simp[ZP,hh]
 have hs:=acF (P:=SA) (main:=main) (w:=w) hC.2.2.2 PK dn iF;have e:TA.wrap (((n:Int)* KK)+4294967296)=((n+1:Nat):Int)* KK:=by
  have h1:TA.bits=64:=rfl;have h2:TA.signed=false:=rfl;unfold Xa KK;rw[h1,h2];simp;omega
 rw[e]at hs;refine⟨m9 Wg cs main (((n+1:Nat):Int)* KK),_,_,V2,hs,?_,?_⟩
 ·exact aqT (V:=V1) hw hW (hi 0) hc
 have Sa:n=0\/n=1\/n=2\/n=3:=by omega
 rcases Sa with rfl|rfl|rfl|rfl
 ·have hD:=kQ (adA Wg cs main default);refine tM C 52 _ (λw=>(kQ (adA Wg cs main w)).1) hD.2.1 ?_;obtain⟨t,Lx,x_⟩:=Hz;have Q3:V2.own Wg=some (.cells #[.int .u64 (((0+1:Nat):Int)* KK),.int .u32 0] sm (0,0)):=by simp[V2,View.upd]
  refine C.step _ _ (bN.out hD.2.2.1) λw hw=>⟨Bu Wg cs main,w,#[],V2,?_,.idle hw,?_⟩
  ·have hh:=hw.own Wg _ Q3;exact Hq hD.2.2.2 Lx Hy x_ (v:=.int .u32 0) (by simp[Uz,hh])
  refine C.said (g:=Bu Wg cs main) (g':=Bv Wg cs main) (a:=⟨Wg,1,none⟩) (bN.out (yr1 Wg cs main)) ⟨by show V2.own Wg≠none;rw[Q3];simp,hi 1⟩ (λw=>Hp .read (λ_ _ h=>by cases h) (asp Wg cs main) ag1) ?_;have hE:=kQ (N3 Wg cs main default);refine tM C 39 _ (λw=>(kQ (N3 Wg cs main w)).1) hE.2.1 ?_;exact ED C hE.2.2.1 (λw=>(kQ (N3 Wg cs main w)).2.2.2) (yG1 Wg cs main) zD.symm λfr hl=>hJ _ _ fr ⟨rfl,rfl⟩ hl
 ·have hE:=kQ (N4 Wg cs main default);refine tM C 87 _ (λw=>(kQ (N4 Wg cs main w)).1) hE.2.1 ?_;exact ED C hE.2.2.1 (λw=>(kQ (N4 Wg cs main w)).2.2.2) (yG2 Wg cs main) zD.symm λfr hl=>hJ _ _ fr ⟨rfl,rfl⟩ hl
 ·have hE:=kQ (N5 Wg cs main default);refine tM C 87 _ (λw=>(kQ (N5 Wg cs main w)).1) hE.2.1 ?_;exact ED C hE.2.2.1 (λw=>(kQ (N5 Wg cs main w)).2.2.2) (yG3 Wg cs main) zD.symm λfr hl=>hJ _ _ fr ⟨rfl,rfl⟩ hl
 ·have hE:=kQ (N6 Wg cs main default);refine tM C 87 _ (λw=>(kQ (N6 Wg cs main w)).1) hE.2.1 ?_;exact ED C hE.2.2.1 (λw=>(kQ (N6 Wg cs main w)).2.2.2) (yG4 Wg cs main) zD.symm λfr hl=>hJ _ _ fr ⟨rfl,rfl⟩ hl
end
section
variable {P:SI}{main:Bool}{g:SG}{w:Tp}
def ve (g:SG):Option (TypeId×SP):=match ready g with
 |some {op:=.load t x, .. }=>some (t,g.frame.eval x)
 |_=>none
theorem aqH{t:TypeId}{d:TypeDesc}{ad:U5}{v:SP}(h:ve g=some (t,.pointer (some ad)))(ht:P.underlying t=some d)(hd:TypeDesc.agg d=false)(hq:(P.funcs[g.frame.fn]?).any (·.norace)=false)(hc:w.cell? ad=some v):
  stepG P main g w=.go (fin g v) w #[⟨.cell ad,false,false⟩]:=by
 obtain⟨o,x,h1,h2,h3⟩:∃o x,ready g=some o/\o.op=.load t x/\g.frame.eval x=.pointer (some ad):=by
  unfold ve at h;split at h
  ·rename_i s x _ _ _ _ ho;simp only[Tj,U2]at h;obtain⟨rfl,h⟩:=h;exact⟨_,x,ho,rfl,h⟩
  ·cases h
 obtain⟨b,a,ops,i,rest,kk,cs,e,q1,q2,q3,q4,q5,q6,_⟩:=ready.out h1;rw[<- q4]at h3;rw[<- q5];refine VJ (congrArg (λx=>stepG P main x w) e) ?_;have e1:execOp a.eval o=(do let v<- Xz t (.pointer (some ad));pure (.value v)):=by
  unfold execOp;simp only[h2,h3]
 have e2:(isAgg t:Sem Bool).run P w=.ok false w/\∀es,(isAgg t:Sem Bool).events P w es=es:=by
  unfold isAgg Go.underlying;cases d<;>first
   |(exact(Bool.noConfusion hd))
   |(constructor<;>simp[go_sem,ht])
 have hr:(execOp a.eval o).run P w=.ok (.value v) w:=by
  rw[e1];simp[Xz,Vb,loadVar,e2.1,hc]
 have cu:(execOp a.eval o).events P w #[]=#[⟨.cell ad,false,false⟩]:=by
  rw[e1];simp[Xz,Vb,loadVar,e2.1,e2.2,hc]
 rw[at2 q1 q2 q3 hr];unfold listed;rw[cu,seen_eq (by rw[q6];exact hq) (by intro e he f;simp only[TK,SK,S0,or_false]at he;rw[he];simp)]
def xj (g:SG):Option SP:=match ready g with
 |some {op:=.call {callee:=.builtin .close,args, .. }, .. }=>match args.toList with
  |[x]=>some (g.frame.eval x)
  |_=>none
 |_=>none
theorem aqG{c cap s r:Nat}{EN:Array SP}{tm:Bool}(h:xj g=some (.chan (some c)))(hq:(P.funcs[g.frame.fn]?).any (·.norace)=false)(hc:w.heap[c]?=some (.chan cap EN false s r tm)):
  stepG P main g w=.go (fin g (.tuple #[])) {w with heap:=w.heap.setIfInBounds c (.chan cap EN true s r tm)} #[⟨.obj c,false,true⟩,⟨.obj c,true,true⟩]:=by
 obtain⟨o,x,l_,h1,h2,h3⟩:∃o x l_,ready g=some o/\o.op=.call {callee:=.builtin .close,args:=#[x],argTypes:=l_}/\g.frame.eval x=.chan (some c):=by
  unfold xj at h;split at h
  ·rename_i dst xs l_ ty pos af gd ho;split at h
   ·rename_i x hx;have:xs=#[x]:=(by apply VF;simpa using hx);subst this;exact⟨_,x,_,ho,rfl,by simpa using h⟩
   ·cases h
  ·cases h
 obtain⟨b,a,ops,i,rest,kk,cs,e,q1,q2,q3,q4,q5,q6,_⟩:=ready.out h1;rw[<- q4]at h3;rw[<- q5];refine VJ (congrArg (λx=>stepG P main x w) e) ?_;exact stepG_close q1 q2 q3 h2 h3 hc (by rw[q6];exact hq)
end
section
variable (Wg fc c:Nat)
noncomputable def e0:SG:=born SA ⟨.fn (.func 100) #[pW Wg 0,pW fc 0],#[]⟩
noncomputable def e7:SG:=cE SA false 7 (e0 Wg fc)
noncomputable def e8:SG:=fin (e7 Wg fc) (.tuple #[])
noncomputable def e27:SG:=cE SA false 19 (e8 Wg fc)
noncomputable def f76 (h:SG)(v:Int):SG:=cE SA false 48 (fin h (.int .u64 v))
noncomputable def MA (b:SG):SG:=cE SA false 25 (fin b (.bool false))
noncomputable def f96 (b:SG):SG:=cE SA false 19 (fin b (.bool true))
noncomputable def f97 (b:SG):SG:=fin (f96 b) (pW Wg 1)
noncomputable def f121 (b:SG):SG:=cE SA false 23 (fin (f97 Wg b) (.tuple #[]))
noncomputable def f138 (b:SG):SG:=cE SA false 16 (fin (f121 Wg b) (.tuple #[]))
noncomputable def f150 (b:SG):SG:=cE SA false 11 (fin (f138 Wg b) (.int .u64 0))
noncomputable def f154 (b:SG):SG:=cE SA false 3 (fin (f150 Wg b) (.tuple #[]))
noncomputable def f155 (b:SG):SG:=fin (f154 Wg b) (pW Wg 0)
noncomputable def f168 (b:SG):SG:=cE SA false 12 (fin (f155 Wg b) (.tuple #[]))
noncomputable def f169 (b:SG):SG:=fin (f168 Wg b) (.chan (some c))
noncomputable def f170 (b:SG):SG:=fin (f169 Wg c b) (.tuple #[])
noncomputable def yN (h:SG):SG:=cE SA false 31 (fin h (.int .u64 0))
noncomputable def N7 (h:SG):SG:=cE SA false 3 (fin (yN h) (.tuple #[]))
noncomputable def vw (h:SG):SG:=fin (N7 h) (pW Wg 0)
noncomputable def Ea (h:SG):SG:=cE SA false 22 (fin (vw Wg h) (.tuple #[]))
noncomputable def vz (h:SG):SG:=fin (Ea Wg h) (.chan (some c))
noncomputable def HT (h:SG):SG:=fin (vz Wg c h) (.tuple #[])
noncomputable def hd:List Int->SG
 |[]=>e27 Wg fc
 |v::l=>MA (f76 (hd l) v)
noncomputable def bd (l:List Int)(v:Int):SG:=f76 (hd Wg fc l) v
noncomputable def ft (w:Tp)(n d:Nat)(g:SG):List ZA×Bool×Bool×Nat:=(fL SA false w n g,iW SA false n g,bN (cE SA false n g),jW SA false n d g)
noncomputable def fq (w:Tp)(n d:Nat)(g:SG):List ZA×Bool×Bool×Nat:=(fC SA false w n g,true,true,d)
noncomputable def zq (w:Tp)(n:Nat)(g:SG):List ZA×Bool×GoStatus×Nat:=(fL SA false w n g,iW SA false n g,(cE SA false n g).status,jW SA false n 0 g)
noncomputable def zp (w:Tp)(n:Nat)(g:SG):List ZA×Bool×GoStatus×Nat:=(fC SA false w n g,true,.finished,0)
noncomputable def qD (g:SG):Bool:= !(SA.funcs[g.frame.fn]?).any (·.norace)
noncomputable def zT (w:Tp)(h:SG):=(cr h,bN h,ft w 31 1 (fin h (.int .u64 0)),cr (yN h),ft w 3 0 (fin (yN h) (.tuple #[])),oY (N7 h),cr (vw Wg h),bN (vw Wg h),ft w 22 0 (fin (vw Wg h) (.tuple #[])),ve (Ea Wg h),qD (Ea Wg h),xj (vz Wg c h),qD (vz Wg c h),bN (vz Wg c h),mayWake SA (vz Wg c h),zq w 4 (HT Wg c h))
noncomputable def zR (w:Tp)(h:SG):=(some ((135:TO),#[pW Wg 0]),true,fq w 31 1 (fin h (.int .u64 0)),some ((112:TO),(#[]:Array SP)),fq w 3 0 (fin (yN h) (.tuple #[])),some ((158:TypeId),(160:TypeId),pW Wg 0),some ((123:TO),#[pW Wg 0]),true,fq w 22 0 (fin (vw Wg h) (.tuple #[])),some ((139:TypeId),pW fc 0),true,some (XM (some c)),true,true,true,zp w 4 (HT Wg c h))
noncomputable def fT (w:Tp)(b:SG):=(cr b,bN b,ft w 25 1 (fin b (.bool false)),ft w 19 1 (fin b (.bool true)),oY (f96 b),cr (f97 Wg b),bN (f97 Wg b),ft w 23 1 (fin (f97 Wg b) (.tuple #[])),cr (f121 Wg b),(f121 Wg b).offers,ft w 16 1 (fin (f121 Wg b) (.tuple #[])),cr (f138 Wg b),ft w 11 1 (fin (f138 Wg b) (.int .u64 0)),cr (f150 Wg b),ft w 3 0 (fin (f150 Wg b) (.tuple #[])),oY (f154 Wg b),cr (f155 Wg b),bN (f155 Wg b),ft w 12 0 (fin (f155 Wg b) (.tuple #[])),ve (f168 Wg b),qD (f168 Wg b),xj (f169 Wg c b),qD (f169 Wg c b),bN (f169 Wg c b),mayWake SA (f169 Wg c b),zq w 4 (f170 Wg c b))
noncomputable def fR (w:Tp)(b:SG)(v:Int):=(some ((137:TO),#[pW Wg 0,.int .u64 v,.int .u64 (v+1)]),true,fq w 25 1 (fin b (.bool false)),fq w 19 1 (fin b (.bool true)),some ((165:TypeId),(160:TypeId),pW Wg 1),some ((126:TO),#[pW Wg 1]),true,fq w 23 1 (fin (f97 Wg b) (.tuple #[])),some ((127:TO),#[pW Wg 1,.bool false]),(none:Option (Array CommCase×CommShape)),fq w 16 1 (fin (f121 Wg b) (.tuple #[])),some ((135:TO),#[pW Wg 0]),fq w 11 1 (fin (f138 Wg b) (.int .u64 0)),some ((112:TO),(#[]:Array SP)),fq w 3 0 (fin (f150 Wg b) (.tuple #[])),some ((158:TypeId),(160:TypeId),pW Wg 0),some ((123:TO),#[pW Wg 0]),true,fq w 12 0 (fin (f155 Wg b) (.tuple #[])),some ((139:TypeId),pW fc 0),true,some (XM (some c)),true,true,true,zp w 4 (f170 Wg c b))
set_option maxRecDepth 100000
theorem c0(w:Tp):(ft w 7 0 (e0 Wg fc),cr (e7 Wg fc),ft w 19 1 (e8 Wg fc))=(fq w 7 0 (e0 Wg fc),some ((111:TO),(#[]:Array SP)),fq w 19 1 (e8 Wg fc)):=by kernel_rfl
noncomputable def pT (w:Tp)(l:List Int)(v:Int):=(ft w 48 1 (fin (hd Wg fc l) (.int .u64 v)),fT Wg c w (bd Wg fc l v),zT Wg c w (hd Wg fc (v::l)))
noncomputable def pR (w:Tp)(l:List Int)(v:Int):=(fq w 48 1 (fin (hd Wg fc l) (.int .u64 v)),fR Wg fc c w (bd Wg fc l v) v,zR Wg fc c w (hd Wg fc (v::l)))
theorem zz(w:Tp):zT Wg c w (hd Wg fc [])=zR Wg fc c w (hd Wg fc []):=by kernel_rfl
theorem Nd(w:Tp):pT Wg fc c w [] (4* 4294967296)=pR Wg fc c w [] (4* 4294967296):=by kernel_rfl
theorem Nc(w:Tp):pT Wg fc c w [4* 4294967296] (3* 4294967296)=pR Wg fc c w [4* 4294967296] (3* 4294967296):=by kernel_rfl
theorem M_(w:Tp):pT Wg fc c w [3* 4294967296,4* 4294967296] (2* 4294967296)=pR Wg fc c w [3* 4294967296,4* 4294967296] (2* 4294967296):=by kernel_rfl
theorem M3(w:Tp):pT Wg fc c w [2* 4294967296,3* 4294967296,4* 4294967296] (1* 4294967296)=pR Wg fc c w [2* 4294967296,3* 4294967296,4* 4294967296] (1* 4294967296):=by kernel_rfl
theorem M6(w:Tp):pT Wg fc c w [3* 4294967296,4* 4294967296] (1* 4294967296)=pR Wg fc c w [3* 4294967296,4* 4294967296] (1* 4294967296):=by kernel_rfl
theorem Na(w:Tp):pT Wg fc c w [4* 4294967296] (2* 4294967296)=pR Wg fc c w [4* 4294967296] (2* 4294967296):=by kernel_rfl
theorem M4(w:Tp):pT Wg fc c w [2* 4294967296,4* 4294967296] (1* 4294967296)=pR Wg fc c w [2* 4294967296,4* 4294967296] (1* 4294967296):=by kernel_rfl
theorem M7(w:Tp):pT Wg fc c w [4* 4294967296] (1* 4294967296)=pR Wg fc c w [4* 4294967296] (1* 4294967296):=by kernel_rfl
theorem Nb(w:Tp):pT Wg fc c w [] (3* 4294967296)=pR Wg fc c w [] (3* 4294967296):=by kernel_rfl
theorem M9(w:Tp):pT Wg fc c w [3* 4294967296] (2* 4294967296)=pR Wg fc c w [3* 4294967296] (2* 4294967296):=by kernel_rfl
theorem M1(w:Tp):pT Wg fc c w [2* 4294967296,3* 4294967296] (1* 4294967296)=pR Wg fc c w [2* 4294967296,3* 4294967296] (1* 4294967296):=by kernel_rfl
theorem M5(w:Tp):pT Wg fc c w [3* 4294967296] (1* 4294967296)=pR Wg fc c w [3* 4294967296] (1* 4294967296):=by kernel_rfl
theorem M8(w:Tp):pT Wg fc c w [] (2* 4294967296)=pR Wg fc c w [] (2* 4294967296):=by kernel_rfl
theorem M0(w:Tp):pT Wg fc c w [2* 4294967296] (1* 4294967296)=pR Wg fc c w [2* 4294967296] (1* 4294967296):=by kernel_rfl
theorem MZ(w:Tp):pT Wg fc c w [] (1* 4294967296)=pR Wg fc c w [] (1* 4294967296):=by kernel_rfl
end
section
variable {P:SI}{Wg:Nat}{Stop:Nat->SG->Prop}
theorem PQ{n d d':Nat}{g:SG}(h:∀w,ft w n d g=fq w n d' g):(∀w,fL SA false w n g=fC SA false w n g)/\iW SA false n g=true/\bN (cE SA false n g)=true/\jW SA false n d g=d':=
 ⟨λw=>(dT (h w)).1,(dT (h default)).2.1,(dT (h default)).2.2.1,(dT (h default)).2.2.2⟩
theorem xp{n d d':Nat}{g:SG}(h:∀w,ft w n d g=fq w n d' g)(hs:∃m,cS SA Stop m d' (cE SA false n g)):∃m,cS SA Stop m d g:=by
 obtain⟨h1,h2,_,h4⟩:=PQ h;exact wN n d g h1 h2 (by rw[h4];exact hs)
theorem I_{n d d':Nat}{g:SG}(h:∀w,ft w n d g=fq w n d' g)(hs:∃m,h_ SA Wg Stop m d' (cE SA false n g)):∃m,h_ SA Wg Stop m d g:=by
 obtain⟨h1,h2,_,h4⟩:=PQ h;exact acB n d g h1 h2 (by rw[h4];exact hs)
theorem ahr{n:Nat}{g:SG}(h:∀w,zq w n g=zp w n g):∃q,Y4 SA q 0 g:=
 Ha n 0 g (λw=>(dT (h w)).1) (dT (h default)).2.1 (Nj (dT (h default)).2.2.1 (dT (h default)).2.2.2)
theorem aqs{d:Nat}{g g':SG}{es:Array Ur}(hr:g.status=.running)(hm:∀e∈es,WH e=true)(h:∀w,stepG P false g w=.go g' w es)(hs:∃m,h_ P Wg Stop m (deafBehind d es) g'):∃m,h_ P Wg Stop m d g:=by
 obtain⟨m,fV⟩:=hs;exact⟨m+1,.inr ⟨hr,g',es,hm,λw _ _ _=>h w,fV⟩⟩
end
set_option maxRecDepth 100000
theorem t173:(SA.underlying 139).map TypeDesc.agg=some false:=by kernel_rfl
theorem Nk{g:SG}{o:Tu}(h:ready g=some o):bN g=true:=by
 obtain⟨_,_,_,_,_,_,_,_,_,_,_,_,_,_,hr⟩:=ready.out h;unfold bN;rw[hr]
theorem zf{g:SG}{f:TO}{vs:Array SP}(h:cr g=some (f,vs)):bN g=true:=by
 obtain⟨_,_,_,h1,_,_⟩:=cr.out h;exact Nk h1
theorem Ph{g:SG}{s d:TypeId}{v:SP}(h:oY g=some (s,d,v)):bN g=true:=by
 unfold oY at h;split at h
 ·rename_i ho;exact Nk ho
 ·cases h
theorem amR{g:SG}{t:TypeId}{v:SP}(h:ve g=some (t,v)):bN g=true:=by
 unfold ve at h;split at h
 ·rename_i ho;exact Nk ho
 ·cases h
section
variable {Wg fc c:Nat}{Im:cw}
theorem Oq{n:Nat}{g:SG}(hi:Im fc 0=some (.chan (some c)))(h1:cr g=some (123,#[pW Wg 0])) (h3:∀w,ft w n 0 (fin g (.tuple #[]))=fq w n 0 (fin g (.tuple #[])))
  (h4:ve (cE SA false n (fin g (.tuple #[])))=some (139,pW fc 0)) (h5:qD (cE SA false n (fin g (.tuple #[])))=true)
  (h6:xj (fin (cE SA false n (fin g (.tuple #[]))) (.chan (some c)))=some (.chan (some c))) (h7:qD (fin (cE SA false n (fin g (.tuple #[]))) (.chan (some c)))=true) (h8:bN (fin (cE SA false n (fin g (.tuple #[]))) (.chan (some c)))=true)
  (h9:mayWake SA (fin (cE SA false n (fin g (.tuple #[]))) (.chan (some c)))=true) (h10:∀w,zq w 4 (fin (fin (cE SA false n (fin g (.tuple #[]))) (.chan (some c))) (.tuple #[]))=zp w 4 (fin (fin (cE SA false n (fin g (.tuple #[]))) (.chan (some c))) (.tuple #[]))):ub SA Im c Wg 0 g:=by
 refine⟨rfl,bN.out (zf h1),_,λw=>Hp .acquire (λ_ _ h=>by cases h) h1 ag4,?_⟩;refine xp h3 ⟨0,rfl,bN.out (amR h4),fc,0,_,_,hi,λw hc=> ?_,0,rfl,bN.out h8,h9,_,λw s hw=> ?_,ahr h10⟩
 ·obtain⟨d,du,lf⟩:=Tq.1 t173;exact aqH h4 du lf (by simpa[qD]using h5) hc
 ·exact aqG h6 (by simpa[qD]using h7) hw
theorem aaD{n1 n2:Nat}{g:SG}(h1:∀w,ft w n1 1 g=fq w n1 1 g)(h2:cr (cE SA false n1 g)=some (112,#[])) (h3:∀w,ft w n2 0 (fin (cE SA false n1 g) (.tuple #[]))=fq w n2 0 (fin (cE SA false n1 g) (.tuple #[])))
  (h4:oY (cE SA false n2 (fin (cE SA false n1 g) (.tuple #[])))=some (158,160,pW Wg 0)) (h5:ub SA Im c Wg 0 (fin (cE SA false n2 (fin (cE SA false n1 g) (.tuple #[]))) (pW Wg 0))):∃n,h_ SA Wg (ub SA Im c Wg) n 1 g:=by
 refine I_ h1 ?_;refine aqs (bN.out (zf h2)) (MF (.inr rfl)) (λw=>Ho (λ_ h=>by cases h) h2 ag0) ?_;refine I_ (d:=deafBehind 1 #[⟨.mark .enable,false,true⟩]) h3 ?_;exact acC (bN.out (Ph h4)) (λw x y hW=>Hq h4 adm Hy i182 hW.st.1) ⟨0,h5⟩
theorem ast{h:SG}(hi:Im fc 0=some (.chan (some c)))(H:∀w,zT Wg c w h=zR Wg fc c w h):cr h=some (135,#[pW Wg 0])/\∃n,h_ SA Wg (ub SA Im c Wg) n 1 (fin h (.int .u64 0)):=by
 have key:∀w,cr h=some ((135:TO),#[pW Wg 0])/\bN h=true/\ft w 31 1 (fin h (.int .u64 0))=fq w 31 1 (fin h (.int .u64 0))/\cr (yN h)=some ((112:TO),(#[]:Array SP))/\ft w 3 0 (fin (yN h) (.tuple #[]))=fq w 3 0 (fin (yN h) (.tuple #[]))/\oY (N7 h)=some ((158:TypeId),(160:TypeId),pW Wg 0)/\cr (vw Wg h)=some ((123:TO),#[pW Wg 0])/\bN (vw Wg h)=true/\ft w 22 0 (fin (vw Wg h) (.tuple #[]))=fq w 22 0 (fin (vw Wg h) (.tuple #[]))/\ve (Ea Wg h)=some ((139:TypeId),pW fc 0)/\qD (Ea Wg h)=true/\xj (vz Wg c h)=some (XM (some c))/\qD (vz Wg c h)=true/\bN (vz Wg c h)=true/\mayWake SA (vz Wg c h)=true/\zq w 4 (HT Wg c h)=zp w 4 (HT Wg c h):=λw=>by
  have:=H w;unfold zT zR at this;simpa only[U2]using this
 obtain⟨k1,k2,_,k4,_,k6,k7,k8,_,C9,L7,Ar,L8,C_,L9,_⟩:=key default;refine⟨k1,aaD (n1:=31) (n2:=3) (λw=>(key w).2.2.1) k4 (λw=>(key w).2.2.2.2.1) k6 ?_⟩;exact Oq (n:=22) hi k7 (λw=>(key w).2.2.2.2.2.2.2.2.1) C9 L7 Ar L8 C_ L9 (λw=>(key w).2.2.2.2.2.2.2.2.2.2.2.2.2.2.2)
theorem age{b:SG}{v:Nat}(hv:0<v)(hi:Im fc 0=some (.chan (some c)))(H:∀w,fT Wg c w b=fR Wg fc c w b ((v:Int)* 4294967296))(hm:∃n,cS SA (eF SA Im c Wg v) n 1 (MA b)):Ed SA c Wg Im v 1 b:=by
 have key:∀w,cr b=some ((137:TO),#[pW Wg 0,.int .u64 ((v:Int)* 4294967296),.int .u64 ((v:Int)* 4294967296+1)])/\bN b=true/\ft w 25 1 (fin b (.bool false))=fq w 25 1 (fin b (.bool false))/\ft w 19 1 (fin b (.bool true))=fq w 19 1 (fin b (.bool true))/\oY (f96 b)=some ((165:TypeId),(160:TypeId),pW Wg 1)/\cr (f97 Wg b)=some ((126:TO),#[pW Wg 1])/\bN (f97 Wg b)=true/\ft w 23 1 (fin (f97 Wg b) (.tuple #[]))=fq w 23 1 (fin (f97 Wg b) (.tuple #[]))/\cr (f121 Wg b)=some ((127:TO),#[pW Wg 1,.bool false])/\(f121 Wg b).offers=none/\ft w 16 1 (fin (f121 Wg b) (.tuple #[]))=fq w 16 1 (fin (f121 Wg b) (.tuple #[]))/\cr (f138 Wg b)=some ((135:TO),#[pW Wg 0])/\ft w 11 1 (fin (f138 Wg b) (.int .u64 0))=fq w 11 1 (fin (f138 Wg b) (.int .u64 0))/\cr (f150 Wg b)=some ((112:TO),(#[]:Array SP))/\ft w 3 0 (fin (f150 Wg b) (.tuple #[]))=fq w 3 0 (fin (f150 Wg b) (.tuple #[]))/\oY (f154 Wg b)=some ((158:TypeId),(160:TypeId),pW Wg 0)/\cr (f155 Wg b)=some ((123:TO),#[pW Wg 0])/\bN (f155 Wg b)=true/\ft w 12 0 (fin (f155 Wg b) (.tuple #[]))=fq w 12 0 (fin (f155 Wg b) (.tuple #[]))/\ve (f168 Wg b)=some ((139:TypeId),pW fc 0)/\qD (f168 Wg b)=true/\xj (f169 Wg c b)=some (XM (some c))/\qD (f169 Wg c b)=true/\bN (f169 Wg c b)=true/\mayWake SA (f169 Wg c b)=true/\zq w 4 (f170 Wg c b)=zp w 4 (f170 Wg c b):=λw=>by
  have:=H w;unfold fT fR at this;simpa only[U2]using this
 obtain⟨k1,k2,_,_,k5,k6,k7,_,k9,C9,_,Ar,_,C_,_,L_,Ma,k18,_,Mb,Mc,Md,Me,Mf,Mg,_⟩:=key default;refine⟨rfl,bN.out k2,⟨_,λw hW=>aqE k1 PL hW.st.1 hW.st.2.2.1,?_⟩,λu hu=>⟨_,λw hW=>aqF k1 PL hW.st.1 hW.st.2.2.1 (λe=> ?_),?_⟩⟩
 ·refine I_ (λw=>(key w).2.2.2.1) ?_;have hs:SA.underlying 165=some (.pointer (Hz.choose))/\(SA.info? Hz.choose).map (λi=>decide (i.size=0))=some false:=Hz.choose_spec;refine acC (bN.out (Ph k5)) (λw x y hW=>Hq k5 hs.1 Hy hs.2 hW.st.2.1) ⟨0,rfl,bN.out k7,_,λw=>Hp .write (λ_ _ h=>by cases h) k6 ag5,?_⟩;refine xp (λw=>(key w).2.2.2.2.2.2.2.1) ⟨0,rfl,bN.out (zf k9),C9,λw st hW=> ?_,fin (f121 Wg b) (.tuple #[]),λw hW=> ?_,?_⟩
  ·exact aqK k9 PJ hW.st.2.1
  ·exact aqI (n:=1) k9 PJ hW.st.2.1 (by decide) hW.st.2.2.2
  ·refine xp (λw=>(key w).2.2.2.2.2.2.2.2.2.2.1) ⟨0,rfl,bN.out (zf Ar),_,λw hW=>NB Ar I2 hW.st.1,?_⟩;refine aaD (n1:=11) (n2:=3) (λw=>(key w).2.2.2.2.2.2.2.2.2.2.2.2.1) C_ (λw=>(key w).2.2.2.2.2.2.2.2.2.2.2.2.2.2.1) L_ ?_;exact Oq (n:=12) hi Ma (λw=>(key w).2.2.2.2.2.2.2.2.2.2.2.2.2.2.2.2.2.2.1) Mb Mc Md Me Mf Mg (λw=>(key w).2.2.2.2.2.2.2.2.2.2.2.2.2.2.2.2.2.2.2.2.2.2.2.2.2)
 ·unfold KK at e;omega
 ·exact xp (λw=>(key w).2.2.1) hm
theorem mL(hi:Im fc 0=some (.chan (some c))){h:SG}{k:Nat}(hz:∀w,zT Wg c w h=zR Wg fc c w h)
  (hv:∀v,0<v->v<=k->v<=4->(∀w,ft w 48 1 (fin h (.int .u64 ((v:Int)* 4294967296)))=fq w 48 1 (fin h (.int .u64 ((v:Int)* 4294967296))))/\(∀w,fT Wg c w (f76 h ((v:Int)* 4294967296))=fR Wg fc c w (f76 h ((v:Int)* 4294967296)) ((v:Int)* 4294967296))/\eF SA Im c Wg v 1 (MA (f76 h ((v:Int)* 4294967296)))):eF SA Im c Wg (k+1) 1 h:=by
 obtain⟨z1,z2⟩:=ast hi hz;rw[eF];refine⟨rfl,bN.out (zf z1),λv h1 h2=> ?_⟩;refine⟨_,λw hW=>NB z1 I2 hW.st.1,λe=> ?_,λe=> ?_⟩
 ·subst e;exact z2
 ·obtain⟨q1,q2,q3⟩:=hv v (by omega) h1 h2;exact xp q1 ⟨0,age (by omega) hi q2 ⟨0,q3⟩⟩
theorem dN{l:List Int}{v:Int}(h:∀w,pT Wg fc c w l v=pR Wg fc c w l v):(∀w,ft w 48 1 (fin (hd Wg fc l) (.int .u64 v))=fq w 48 1 (fin (hd Wg fc l) (.int .u64 v)))/\(∀w,fT Wg c w (bd Wg fc l v)=fR Wg fc c w (bd Wg fc l v) v)/\(∀w,zT Wg c w (hd Wg fc (v::l))=zR Wg fc c w (hd Wg fc (v::l))):=by
 refine⟨λw=>(WY (h w)).1,λw=>(WY (WY (h w)).2).1,λw=>(WY (WY (h w)).2).2⟩
end
section
variable (Wg fc c:Nat){Im:cw}
theorem ak4(hi:Im fc 0=some (.chan (some c))):eF SA Im c Wg 1 1 (hd Wg fc [1* 4294967296]):=by
 refine mL (k:=0) hi (dN (MZ Wg fc c)).2.2 λv h1 h2 h3=> ?_;omega
theorem ak5(hi:Im fc 0=some (.chan (some c))):eF SA Im c Wg 1 1 (hd Wg fc [1* 4294967296,2* 4294967296]):=by
 refine mL (k:=0) hi (dN (M0 Wg fc c)).2.2 λv h1 h2 h3=> ?_;omega
theorem alc(hi:Im fc 0=some (.chan (some c))):eF SA Im c Wg 2 1 (hd Wg fc [2* 4294967296]):=by
 refine mL (k:=1) hi (dN (M8 Wg fc c)).2.2 λv h1 h2 h3=> ?_;rcases(show v=1 by omega)with rfl
 ·exact⟨(dN (M0 Wg fc c)).1,(dN (M0 Wg fc c)).2.1,ak5 Wg fc c hi⟩
theorem ak9(hi:Im fc 0=some (.chan (some c))):eF SA Im c Wg 1 1 (hd Wg fc [1* 4294967296,3* 4294967296]):=by
 refine mL (k:=0) hi (dN (M5 Wg fc c)).2.2 λv h1 h2 h3=> ?_;omega
theorem ak6(hi:Im fc 0=some (.chan (some c))):eF SA Im c Wg 1 1 (hd Wg fc [1* 4294967296,2* 4294967296,3* 4294967296]):=by
 refine mL (k:=0) hi (dN (M1 Wg fc c)).2.2 λv h1 h2 h3=> ?_;omega
theorem ald(hi:Im fc 0=some (.chan (some c))):eF SA Im c Wg 2 1 (hd Wg fc [2* 4294967296,3* 4294967296]):=by
 refine mL (k:=1) hi (dN (M9 Wg fc c)).2.2 λv h1 h2 h3=> ?_;rcases(show v=1 by omega)with rfl
 ·exact⟨(dN (M1 Wg fc c)).1,(dN (M1 Wg fc c)).2.1,ak6 Wg fc c hi⟩
theorem alg(hi:Im fc 0=some (.chan (some c))):eF SA Im c Wg 3 1 (hd Wg fc [3* 4294967296]):=by
 refine mL (k:=2) hi (dN (Nb Wg fc c)).2.2 λv h1 h2 h3=> ?_;rcases(show v=1\/v=2 by omega)with rfl|rfl
 ·exact⟨(dN (M5 Wg fc c)).1,(dN (M5 Wg fc c)).2.1,ak9 Wg fc c hi⟩
 ·exact⟨(dN (M9 Wg fc c)).1,(dN (M9 Wg fc c)).2.1,ald Wg fc c hi⟩
theorem alb(hi:Im fc 0=some (.chan (some c))):eF SA Im c Wg 1 1 (hd Wg fc [1* 4294967296,4* 4294967296]):=by
 refine mL (k:=0) hi (dN (M7 Wg fc c)).2.2 λv h1 h2 h3=> ?_;omega
theorem ak8(hi:Im fc 0=some (.chan (some c))):eF SA Im c Wg 1 1 (hd Wg fc [1* 4294967296,2* 4294967296,4* 4294967296]):=by
 refine mL (k:=0) hi (dN (M4 Wg fc c)).2.2 λv h1 h2 h3=> ?_;omega
theorem alf(hi:Im fc 0=some (.chan (some c))):eF SA Im c Wg 2 1 (hd Wg fc [2* 4294967296,4* 4294967296]):=by
 refine mL (k:=1) hi (dN (Na Wg fc c)).2.2 λv h1 h2 h3=> ?_;rcases(show v=1 by omega)with rfl
 ·exact⟨(dN (M4 Wg fc c)).1,(dN (M4 Wg fc c)).2.1,ak8 Wg fc c hi⟩
theorem ala(hi:Im fc 0=some (.chan (some c))):eF SA Im c Wg 1 1 (hd Wg fc [1* 4294967296,3* 4294967296,4* 4294967296]):=by
 refine mL (k:=0) hi (dN (M6 Wg fc c)).2.2 λv h1 h2 h3=> ?_;omega
theorem ak7(hi:Im fc 0=some (.chan (some c))):eF SA Im c Wg 1 1 (hd Wg fc [1* 4294967296,2* 4294967296,3* 4294967296,4* 4294967296]):=by
 refine mL (k:=0) hi (dN (M3 Wg fc c)).2.2 λv h1 h2 h3=> ?_;omega
theorem ale(hi:Im fc 0=some (.chan (some c))):eF SA Im c Wg 2 1 (hd Wg fc [2* 4294967296,3* 4294967296,4* 4294967296]):=by
 refine mL (k:=1) hi (dN (M_ Wg fc c)).2.2 λv h1 h2 h3=> ?_;rcases(show v=1 by omega)with rfl
 ·exact⟨(dN (M3 Wg fc c)).1,(dN (M3 Wg fc c)).2.1,ak7 Wg fc c hi⟩
theorem alh(hi:Im fc 0=some (.chan (some c))):eF SA Im c Wg 3 1 (hd Wg fc [3* 4294967296,4* 4294967296]):=by
 refine mL (k:=2) hi (dN (Nc Wg fc c)).2.2 λv h1 h2 h3=> ?_;rcases(show v=1\/v=2 by omega)with rfl|rfl
 ·exact⟨(dN (M6 Wg fc c)).1,(dN (M6 Wg fc c)).2.1,ala Wg fc c hi⟩
 ·exact⟨(dN (M_ Wg fc c)).1,(dN (M_ Wg fc c)).2.1,ale Wg fc c hi⟩
theorem ali(hi:Im fc 0=some (.chan (some c))):eF SA Im c Wg 4 1 (hd Wg fc [4* 4294967296]):=by
 refine mL (k:=3) hi (dN (Nd Wg fc c)).2.2 λv h1 h2 h3=> ?_;rcases(show v=1\/v=2\/v=3 by omega)with rfl|rfl|rfl
 ·exact⟨(dN (M7 Wg fc c)).1,(dN (M7 Wg fc c)).2.1,alb Wg fc c hi⟩
 ·exact⟨(dN (Na Wg fc c)).1,(dN (Na Wg fc c)).2.1,alf Wg fc c hi⟩
 ·exact⟨(dN (Nc Wg fc c)).1,(dN (Nc Wg fc c)).2.1,alh Wg fc c hi⟩
theorem hq_(hi:Im fc 0=some (.chan (some c))):eF SA Im c Wg 5 1 (hd Wg fc []):=by
 refine mL (k:=4) hi (zz Wg fc c) λv h1 h2 h3=> ?_;rcases(show v=1\/v=2\/v=3\/v=4 by omega)with rfl|rfl|rfl|rfl
 ·exact⟨(dN (MZ Wg fc c)).1,(dN (MZ Wg fc c)).2.1,ak4 Wg fc c hi⟩
 ·exact⟨(dN (M8 Wg fc c)).1,(dN (M8 Wg fc c)).2.1,alc Wg fc c hi⟩
 ·exact⟨(dN (Nb Wg fc c)).1,(dN (Nb Wg fc c)).2.1,alg Wg fc c hi⟩
 ·exact⟨(dN (Nd Wg fc c)).1,(dN (Nd Wg fc c)).2.1,ali Wg fc c hi⟩
theorem agr(hi:Im fc 0=some (.chan (some c))):HX SA Im c Wg (born SA ⟨.fn (.func 100) #[pW Wg 0,pW fc 0],#[]⟩):=by
 have h0:∀w,ft w 7 0 (e0 Wg fc)=fq w 7 0 (e0 Wg fc)/\cr (e7 Wg fc)=some ((111:TO),(#[]:Array SP))/\ft w 19 1 (e8 Wg fc)=fq w 19 1 (e8 Wg fc):=λw=>by
  have:=c0 Wg fc w;simpa only[U2]using this
 show ∃n,cS SA (eF SA Im c Wg 5) n 0 (e0 Wg fc);refine xp (λw=>(h0 w).1) ?_;refine Nw (bN.out (zf (h0 default).2.1)) (MF (.inl rfl)) (λw=>Ho (λ_ h=>by cases h) (h0 default).2.1 I1) ?_;exact xp (d:=deafBehind 0 #[⟨.mark .disable,false,true⟩]) (λw=>(h0 w).2.2) ⟨0,hq_ Wg fc c hi⟩
end
open Go.Gg.Tk
section
variable {lv:Bool}{P:SI}{r:Option Nat}{nt:Nat}{E:Env}{V:View}{a:Act}{s:AS}{c:T4}{Q:Ex->Act->View->Prop}
theorem zb(s3:AS)(ah:At E V s a nt)(h:aP lv P r nt c s (λe s'=>match e with|.normal=>s'.Sub s3|_=>False))(hQ:∀E' V' a',Kept E E' V V' a a'->At E' V' s3 a' nt->Q .normal a' V'):WP lv P r c Q a V:=
 h E V a Q ah λae e E' V' a' s' hk aS he hΦ=>by
  cases ae<;>cases e<;>first
   |exact he.elim
   |exact hΦ.elim
   |exact hQ E' V' a' hk (aS.sub hΦ)
theorem unwind_mark{lv:Bool}{P:SI}{main:Bool}{J:View->SG->Prop}(C:Closed lv P main J){V:View}{fr:Ua}{cs:List Ua}{b:Nat}{ds:List UY}(h4:fr.defers={target:=.collected b,args:=#[]}::ds) (hm:(fr.mode matches .run)=false) (ho:V.own b=some (.deferred (some []))) (eI:V.role.chan≠some b) (h:J (V.upd b (.deferred none)) (G {fr with defers:=ds} cs)):J V (G fr cs):=by
 refine C.step _ _ rfl λw hw=> ?_;obtain⟨es,w',V',k1,k2,k3⟩:=(Nt (P:=P) ho eI).runs hw;rcases k3 with⟨x,k3,rfl,rfl⟩|⟨_,_,hx⟩
 ·refine⟨G {fr with defers:=ds} cs,w',seen P fr.fn es,_,?_,k1.seen P fr.fn,h⟩;have e:stepG P main (G fr cs) w=unwind P main fr cs none w:=by
   obtain⟨fn,tmps,todo,defers,mode,kind,ro⟩:=fr;cases mode with
   |run=>cases hm
   |returning=>simp[G,stepG]
   |panicking ch=>simp[G,stepG]
  rw[e];simp only[unwind,h4];simp[TB,k3,k2,T1,G]
 ·exact hx.elim
theorem ey{s s':AS}(h:∀p∈s'.T,∃b,look s.T p.1=some b/\Wk b p.2)(hH:s.H=s'.H):s.Sub s':=⟨λ_ _ e=>h _ (oG e),hH⟩
theorem us{E:Env}{x v:SP}(h:ap E (.val x) v):v=x:=by cases h;rfl
theorem ES{E:Env}{cs:Array SP}(h:cJ E [] cs):cs=#[]:=Array.size_eq_zero_iff.1 h.1
theorem Px{E:Env}{l:List SP}{cs:Array SP}(h:cJ E (l.map .val) cs):cs=l.toArray:=by
 have hs:cs.size=l.length:=by simpa using h.1
 refine Array.ext hs λi h1 h2=> ?_;have hi:i<l.length:=by simpa using h2
 have:=us (h.2 i (.val l[i]) (by simp[SY hi]));rw[SH,SJ h1]at this;simpa using this
def rT (K:Kn)(b:Nat):List SP:=.bool K.has:: .map (some b)::(K.aA.map (λn:Nat=>SF .u16 n)++(K.hours.map (λn:Nat=>SF .u16 n)++(K.less.map (λn:Nat=>SF .u16 n)++(K.aU.map (λn:Nat=>SF .u16 n)++K.first.map (SF .i64)))))
def rS (K:Kn):Obj:=.map (K.aK.zipIdx.map ew).toArray K.aK.length
theorem agI{E:Env}{K:Kn}{mp:Nat}{v:SP}(h:ap E (.agg (K.l mp)) v):v=.agg (rT K (E.blk mp)).toArray:=by
 cases h with
 |agg hs h=>
  rename_i cs;congr 1;have hl:(K.l mp).length=(rT K (E.blk mp)).length:=by simp[Kn.l,rT]
  have key:∀(i:Nat)(x:AV),(K.l mp)[i]?=some x->∀y,ap E x y->(rT K (E.blk mp))[i]?=some y:=by
   intro i x hx y hy
   match i with
   |0=>cases hx;rw[us hy];rfl
   |1=>cases hx;cases hy;rfl
   |i+2=>
    have e:(K.l mp)[i+2]?=((K.aA.map (λn:Nat=>SF .u16 n)++(K.hours.map (λn:Nat=>SF .u16 n)++(K.less.map (λn:Nat=>SF .u16 n)++(K.aU.map (λn:Nat=>SF .u16 n)++K.first.map (SF .i64))))).map AV.val)[i]?:=by
     simp[Kn.l,wv,iv,Yv]
    rw[e,To]at hx;obtain⟨z,h1,rfl⟩:=Tq.1 hx;rw[us hy];exact h1
  have pw:cs.size=(rT K (E.blk mp)).length:=hs.trans hl;refine Array.ext pw λi h1 h2=> ?_;have hi:i<(K.l mp).length:=by omega
  have:=key i _ (SY hi) _ (h i _ (SY hi));rw[SH,SJ h1]at this;have h3:(rT K (E.blk mp)).toArray[i]?=some cs[i]:=by simpa using this
  rw[SJ h2]at h3;exact(VY h3).symm
def qI (x:aj)(deep:Int)(bi:Nat):Spec:=λv _ Ow=>∃b,v=.agg (rT (gL x deep bi) b).toArray/\∀b',Ow b'=if b'=b then some (rS (gL x deep bi))else none
set_option maxRecDepth 100000 in
theorem aoy:SA.funcs.size=184:=by kernel_rfl
theorem NV{x:aj}{deep:Int}{bi:Nat}(hx:x.Ok)(hA:∀h∈kv x bi,mD h/\∀ns∈fY x h,∀a∈(iu x h ns).map (dA h ns),ju x a):bJ (gL x deep bi):=by
 unfold gL;refine Jz hx (λt ht=> ?_) Da;obtain⟨h,h1,h2⟩:=S5.1 ht;obtain⟨ns,h3,h4⟩:=NO h2;exact(hA h h1).2 ns h3 t h4
theorem asf{J:View->SG->Prop}(C:yO SA false J){E:Env}{V:View}{x:aj}{bi c Wg:Nat}{deep:Int}{rv tv dv fv:SP}(hx:x.Ok)(lT:bi<=3)(hA:∀h∈kv x bi,mD h/\∀ns∈fY x h,∀a∈(iu x h ns).map (dA h ns),ju x a)(aj1:Conc E V [])
  (hr:ap E (.rp x.l) rv) (ht:ap E (.rp [iv bi]) tv) (hd:ap E (.rp [iv deep]) dv) (hf:ap E (.rp [.val (.chan (some c))]) fv) (b8:V.role=.work c Wg [qI x deep bi]) (eW:V.deaf=0):J V (born SA ⟨.fn (.func 97) #[pW Wg 0,rv,tv,dv,fv],#[]⟩):=by
 have C':Closed false SA false J:={C with more:=λh=>by cases h};unfold born;rw[aoy];refine adp C' (fr:={(default:Ua)with fn:=184,defers:=[⟨.fn (.func 97) #[pW Wg 0,rv,tv,dv,fv],#[]⟩],mode:=.panicking [goexitEntry]}) (ds:=[]) rfl rfl (by kernel_rfl) ?_;refine ahf (Q:=λa' V'=>∃b,a'.defers=[{target:=.collected b,args:=#[]},⟨.fn (.func 98) #[],#[pW Wg 0]⟩]/\V'.own b=some (.deferred (some []))/\V'.role=.work c Wg []/\V'.deaf=0) C' (by simp) F.f97 rfl ?_ ?_
 rotate_left
 ·rintro a' V' todo ⟨b,h1,h0,h2,h3⟩
  refine unwind_mark C' (ds:=[⟨.fn (.func 98) #[],#[pW Wg 0]⟩]) h1 rfl h0 (by rw[h2];simp[mY.chan]) ?_;refine adp C' (ds:=[]) rfl rfl (by kernel_rfl) ?_;exact agT Wg a'.tmps todo C h2 h3
 have cN:cJ E [.val (pW Wg 0),.rp x.l,.rp [iv bi],.rp [iv deep],.rp [.val (.chan (some c))]] (#[]++#[pW Wg 0,rv,tv,dv,fv]):=by
  refine⟨rfl,λi a e=> ?_⟩
  match i,e with
  |0,e=>cases e;exact .val _
  |1,e=>cases e;exact hr
  |2,e=>cases e;exact ht
  |3,e=>cases e;exact hd
  |4,e=>cases e;exact hf
 have ah:=BJ (nt:=25) aj1 cN (by simp);simp only[bk,SV]at ah;refine wp_seq ?_;refine(OU (nt:=25) (n:=0) (ds:=[]) (Φ:=λe s' nj=>e=.normal/\s'=⟨[(0,.val (pW Wg 0)),(1,.rp x.l),(2,.rp [iv bi]),(3,.rp [iv deep]),(4,.rp [.val (.chan (some c))])],[]⟩/\nj=[(.fn (.func 98) [] [],[.val (pW Wg 0)])]) rfl rfl rfl rfl rfl rfl (by kernel_rfl) ?_) E V _ _ ah trivial λae e E1 V1 a1 s1 ds1 iD v6 du Cv h1=> ?_
 ·(try simp only[seval]);exact⟨_,_,_,rfl⟩
 obtain⟨rfl,rfl,rfl⟩:=h1;cases e<;>first
  |exact Cv.elim
  |skip
 have aka:a1.defers=[⟨.fn (.func 98) #[],#[pW Wg 0]⟩]:=by
  match jg:a1.defers,du with
  |[d],du=>
   obtain⟨⟨f,first,cT,fa,ca,vs,q1,rfl,q3,q4,q5⟩,_⟩:=du;cases q1;rw[ES q3,ES q4,Px (l:=[pW Wg 0]) q5];rfl
  |[],du=>exact du.elim
  |_::_::_,du=>exact du.2.elim
 refine wp_seq ?_;refine zb ⟨[(5,.op 1 0),(0,.val (pW Wg 0)),(1,.rp x.l),(2,.rp [iv bi]),(3,.rp [iv deep]),(4,.rp [.val (.chan (some c))])],[setH [],.cells (Kn.zero.l 0) 88]⟩ v6 ?_ λE2 V2 a2 cG uC=> ?_
 ·refine ak ?_;exact ey (by simp only[seval];simp[bu,Wk.refl]) rfl
 refine wp_seq (wp_seq ?_);refine zb ⟨u9 x bi deep c (pW Wg 0),wC x bi Kn.zero⟩ uC ?_ λE3 V3 a3 wn qe=> ?_
 ·have bO:x.l=[iv x.first,iv x.hours,iv x.am,dS x.seen,aW x.pieces,aW x.aB]:=rfl;refine ai ?_;simp only[seval,bO];refine aI ((Jh (x:=x) (n:=bi) ?_));(try simp only[seval]);exact ey (by unfold u9;simp only[seval];simp[bu,Wk.refl];exact Wk.refl _) rfl
 have akb:a3.defers=[⟨.fn (.func 98) #[],#[pW Wg 0]⟩]:=wn.defers.trans (cG.defers.trans aka);have alj:V3.role=.work c Wg [qI x deep bi]:=wn.role.trans (cG.role.trans (iD.role.trans b8));have aj5:V3.deaf=0:=wn.deaf.trans (cG.deaf.trans (iD.deaf.trans eW));refine alW (lv:=false) (bs:=[⟨.fn (.func 98) #[],#[pW Wg 0]⟩]) hx lT hA (λe s' cD=>e=.normal/\s'=⟨u9 x bi deep c (pW Wg 0),wC x bi (gL x deep bi)++[.obj (.deferred (some [])),.gone]⟩/\cD=[4]) ⟨rfl,rfl,rfl⟩ E3 V3 a3 _ qe ⟨by simp[akb],by simp⟩ λae e E4 V4 a4 s4 ms4 rE rA akF he4 hΦ4=> ?_;obtain⟨rfl,rfl,rfl⟩:=hΦ4;cases e<;>first
  |exact he4.elim
  |skip
 have akc:a4.defers=[{target:=.collected (E4.blk 4),args:=#[]},⟨.fn (.func 98) #[],#[pW Wg 0]⟩]:=akF.1;have alk:V4.role=.work c Wg [qI x deep bi]:=rE.role.trans alj;have Rq:V4.deaf=0:=rE.deaf.trans aj5;have xF:bJ (gL x deep bi):=NV hx hA;generalize hW:gL x deep bi=W at rA xF;have Fu:=Kn.len xF 0;refine HJ (K:=λs'=>look s'.T 23=some (.val (.chan (some c)))/\look s'.T 24=some (.agg (W.l 0))/\s'.Sub ⟨u9 x bi deep c (pW Wg 0),wC x bi W++[.obj (.deferred (some [])),.gone]⟩) 2 1 rfl (by kernel_rfl) rA ?_ λE5 V5 a5 s5 gq kj hK=> ?_
 ·unfold u9 wC;(try simp only[seval,Fu]);rw[SX (i:=28) (by omega)];exact⟨rfl,ey (by simp only[seval];simp[bu,Wk.refl]) rfl⟩
 obtain⟨l23,l24,lS⟩:=hK;have Fy:=kj.sub lS;have e23:a5.eval (.tmp 23)=.chan (some c):=us (kj.tok _ _ l23).2;have e24:a5.eval (.tmp 24)=.agg (rT W (E5.blk 0)).toArray:=agI (kj.tok _ _ l24).2;have h0:V5.own (E5.blk 0)=some (rS W):=(Fy.br.obj 0 (setH W.aK) rfl).1;have h4:V5.own (E5.blk 4)=some (.deferred (some [])):=(Fy.br.obj 4 (.obj (.deferred (some []))) rfl).1;have aH:E5.blk 4≠E5.blk 0:=λe=>by rw[e,h0]at h4;cases h4
 have hb4:E5.blk 4=E4.blk 4:=gq.le.blk 4 (by rw[rA.br.n];simp[wC]);refine N0 rfl rfl ?_;refine⟨c,Wg,qI x deep bi,[],λb=>decide (b=E5.blk 0),e23,by rw[gq.role];exact alk,gq.deaf.trans Rq,⟨E5.blk 0,by rw[hW];exact e24,λb'=> ?_⟩,?_⟩
 ·rw[hW];by_cases hb:b'=E5.blk 0
  ·subst hb;simp[h0]
  ·simp[hb]
 ·refine⟨trivial,E5.blk 4,?_,?_,rfl,gq.deaf.trans Rq⟩
  ·rw[hb4];exact gq.defers.trans akc
  ·show (if decide (E5.blk 4=E5.blk 0)=true then none else V5.own (E5.blk 4))=_;rw[if_neg (by simpa using aH)];exact h4
theorem aoc(r:Option Nat):AV.parts (.val (.chan r))=some [.val (.chan r)]:=rfl
theorem asw(r:Option Nat):l7 (.chan r)=[.val (.chan r)]:=rfl
theorem amj(r:Option Nat):AV.leaf (.val (.chan r))=true:=rfl
theorem NX{x y:T4}{t:Nat}{b:Bool}(ah:At E V s a nt)(hl:look s.T t=some (.val (.bool b)))(h:WP lv P r (if b then x else y) Q a V):WP lv P r (.cond (.tmp t) x y) Q a V:=by
 have hd:=(ah.tok t _ hl).2;generalize hx:a.tmps.getD t undef=v at hd;cases hd;exact wp_cond (t:=b) hx h
end
theorem Pt{E:Env}{f:Fn}{first cT:List AV}{v:SP}(h:ap E (.fn f first cT) v):∃fa ca,v=.func f fa ca/\cJ E first fa/\cJ E cT ca:=by
 cases h with
 |fn dP fW h1 h2=>exact⟨_,_,rfl,⟨dP,h1⟩,⟨fW,h2⟩⟩
theorem BT{E:Env}{i o:Nat}{v:SP}(h:ap E (.op i o) v):v=.pointer (some ⟨E.blk i,o,none⟩):=by cases h;rfl
theorem GD(x:aj)(n:Nat):∀a∈x.l,Lt n a:=by
 intro a ha;simp only[aj.l,SK,S0,or_false]at ha;rcases ha with rfl|rfl|rfl|rfl|rfl|rfl
 ·exact .val _
 ·exact .val _
 ·exact .val _
 ·rw[aaU];trivial
 ·rw[GC];trivial
 ·rw[GC];trivial
theorem am0(x:aj):Lt 0 (.rp x.l):=by
 rw[yn];exact GD x 0
set_option maxRecDepth 100000 in
theorem wgT:NS SA=147:=by kernel_rfl
def ci:T4->T4
 |.block _ c|.loop c|.scope c=>c
 |_=> .skip
noncomputable def va:T4:=XJ.body.getD .skip
noncomputable def mr:T4:=cs (cs (cs va))
def sO:Obj:=.chan 0 #[] false 0 0 false
def jp:List AV:=bv false:: .val (.map none)::(TH 15 (wv 0)++TH 11 (iv 0))
def dq (x:aj)(deep:Int)(c:Nat):List aa:=[.part 6 x.l 76,.part 1 [iv deep] 3,.cells jp 88,.part 1 [.val (.chan (some c))] 139,.gone]
structure jr (x:aj)(deep:Int)(Hs:List aa)(E:Env)(c Wg:Nat)(rv dv fv:SP)(T:List (Nat×AV))(M:List aa)(E':Env)(V':View)(a':Act):Prop where
 ah:At E' V' ⟨T,Hs++(dq x deep c++M)⟩ a' 35
 lo:E.Lo E'
 main:E'.main=false
 defers:a'.defers=[]
 deaf:V'.deaf=0
 er:rv=.pointer (some ⟨E'.blk Hs.length,0,none⟩)
 ed:dv=.pointer (some ⟨E'.blk (Hs.length+1),0,none⟩)
 ef:fv=.pointer (some ⟨E'.blk (Hs.length+3),0,none⟩)
 dr:ap E' (.rp x.l) rv
 dd:ap E' (.rp [iv deep]) dv
 df:ap E' (.rp [.val (.chan (some c))]) fv
 fr:∀b y,E.fr b=some y->E'.fr b=some y/\b≠c/\b≠Wg
 ne:c≠Wg
section
variable {x:aj}{deep:Int}{Hs:List aa}{E:Env}{c Wg:Nat}{rv dv fv:SP}{T T':List (Nat×AV)}{M M' G:List aa}{E1 E2:Env}{V1 V2:View}{a1 a2:Act}
theorem jr.Hr(h:jr x deep Hs E c Wg rv dv fv T M E1 V1 a1)(le:E1.Le E2)(bz:a2.defers=a1.defers)(eW:V2.deaf=V1.deaf)(ah:At E2 V2 ⟨T',Hs++(dq x deep c++M')⟩ a2 35):jr x deep Hs E c Wg rv dv fv T' M' E2 V2 a2:=by
 have hl:∀i,i<5->Hs.length+i<E1.n:=λi hi=>by rw[h.ah.br.n];simp[dq];omega
 exact⟨ah,h.lo.trans le.lo,le.main.trans h.main,bz.trans h.defers,eW.trans h.deaf,by have:=le.blk _ (hl 0 (by omega));rw[UE]at this;rw[this];exact h.er,by rw[le.blk _ (hl 1 (by omega))];exact h.ed,by rw[le.blk _ (hl 3 (by omega))];exact h.ef,h.dr.mono le,h.dd.mono le,h.df.mono le,λb y e=>by rw[le.fr];exact h.fr b y e,h.ne⟩
theorem jr.step(h:jr x deep Hs E c Wg rv dv fv T M E1 V1 a1)(hk:Kept E1 E2 V1 V2 a1 a2)(ah:At E2 V2 ⟨T',Hs++(dq x deep c++M')⟩ a2 35):jr x deep Hs E c Wg rv dv fv T' M' E2 V2 a2:=h.Hr hk.le hk.defers hk.deaf ah
theorem jr.to(T':List (Nat×AV))(M':List aa)(h:jr x deep Hs E c Wg rv dv fv T M E1 V1 a1){cd:T4}{Q:Ex->Act->View->Prop}(hw:aP true SA none 35 cd ⟨T,Hs++(dq x deep c++M)⟩ (λe s'=>match e with|.normal=>s'.Sub ⟨T',Hs++(dq x deep c++M')⟩|_=>False))
  (hQ:∀E2 V2 a2,Kept E1 E2 V1 V2 a1 a2->jr x deep Hs E c Wg rv dv fv T' M' E2 V2 a2->Q .normal a2 V2):WP true SA none cd Q a1 V1:=
 zb ⟨T',Hs++(dq x deep c++M')⟩ h.ah hw λE2 V2 a2 hk ah=>hQ E2 V2 a2 hk (h.step hk ah)
theorem jr.cut(h:jr x deep Hs E c Wg rv dv fv T (M++G) E1 V1 a1)(hE:E.n<=Hs.length)(hT:∀p∈T',∃b,look T p.1=some b/\Wk b p.2/\Lt (Hs.length+5+M.length) p.2)(au:bI (Hs++(dq x deep c++M))):jr x deep Hs E c Wg rv dv fv T' M {E1 with n:=Hs.length+5+M.length} V1 a1:=by
 have hlen:(Hs++(dq x deep c++M)).length=Hs.length+5+M.length:=by simp[dq];omega
 have hc:=h.ah.cut (s':=⟨T',Hs++(dq x deep c++M)⟩) ⟨λt a e=>by
  obtain⟨b,h1,h2,h3⟩:=hT _ (oG e);exact⟨b,h1,h2,by rw[hlen];exact h3⟩,⟨G,by simp⟩,au⟩
 simp only[hlen]at hc;exact⟨hc,h.lo.cut (by omega),h.main,h.defers,h.deaf,h.er,h.ed,h.ef,h.dr.trim (by rw[yn];exact GD x _),h.dd.trim (by simp[yn,eK]),h.df.trim (by simp[yn,eK]),h.fr,h.ne⟩
theorem aaC(hH:bI Hs)(hM:∀z∈M,fb (Hs.length+5+M.length) z):bI (Hs++(dq x deep c++M)):=by
 intro y hy;have hlen:(Hs++(dq x deep c++M)).length=Hs.length+5+M.length:=by simp[dq];omega
 rw[hlen];rcases SR.1 hy with h|h
 ·exact(hH y h).mono (by omega)
 ·rcases SR.1 h with h|h
  ·simp only[dq,SK,S0,or_false]at h;rcases h with rfl|rfl|rfl|rfl|rfl
   ·exactλa ha=>GD x _ a ha
   ·intro a ha;simp at ha;subst ha;exact .val _
   ·intro a ha;simp only[jp,SK,SR,Xw]at ha;rcases ha with rfl|rfl|⟨_,rfl⟩|⟨_,rfl⟩<;>exact .val _
   ·intro a ha;simp at ha;subst ha;exact .val _
   ·trivial
  ·exact hM y h
end
def oM (x:aj)(deep:Int)(i:Nat):List (List Spec):=(SZ i).map λk=>[qI x deep k]
theorem Nz(x:aj)(deep:Int)(i:Nat):(oM x deep i).length=i:=by simp[oM]
theorem aqv(x:aj)(deep:Int)(i:Nat):oM x deep (i+1)=oM x deep i++[[qI x deep i]]:=by simp[oM,Vo]
def xa (x:aj):Prop:=∀bi,bi<=3->∀h∈kv x bi,mD h/\∀ns∈fY x h,∀a∈(iu x h ns).map (dA h ns),ju x a
noncomputable def jz (Hs:List aa)(Wg:Nat)(n:Int)(i:Nat):List (Nat×AV):=[(16,iv i),(15,iv n),(6,.val (pW Wg 0)),(5,.op (Hs.length+3) 0),(4,.op (Hs.length+2) 0),(3,.op (Hs.length+1) 0),(2,.op Hs.length 0)]
structure vD (x:aj)(deep:Int)(Hs:List aa)(E:Env)(c Wg:Nat)(rv dv fv:SP)(i:Nat)(T:List (Nat×AV))(M:List aa)(E':Env)(V':View)(a':Act):Prop where
 ok:jr x deep Hs E c Wg rv dv fv T M E' V' a'
 role:V'.role=.fork c Wg (oM x deep i)
 Fc:E'.fr c=some sO
 B3:E'.fr Wg=some (wgBlock SA ((i:Int)* 4294967296) 0)
section
variable {x:aj}{deep n:Int}{Hs:List aa}{E:Env}{c Wg i:Nat}{rv dv fv:SP}{T T':List (Nat×AV)}{M M':List aa}{E1 E2:Env}{V1 V2:View}{a1 a2:Act}
theorem vD.step(h:vD x deep Hs E c Wg rv dv fv i T M E1 V1 a1)(hk:Kept E1 E2 V1 V2 a1 a2)(hc:jr x deep Hs E c Wg rv dv fv T' M' E2 V2 a2):vD x deep Hs E c Wg rv dv fv i T' M' E2 V2 a2:=
 ⟨hc,hk.role.trans h.role,by rw[hk.le.fr];exact h.Fc,by rw[hk.le.fr];exact h.B3⟩
theorem al8(hx:x.Ok)(hA:xa x)(zC:E.n<=Hs.length)(au:bI (Hs++(dq x deep c++[])))(h:vD x deep Hs E c Wg rv dv fv i (jz Hs Wg n i) [] E1 V1 a1)(hi:i<=3){cd:T4}{Q:Ex->Act->View->Prop}(hcd:cd=cs (cs (ci (ci (cs (cf mr))))))
  (hQ:∀E2 V2 a2,vD x deep Hs E c Wg rv dv fv (i+1) (jz Hs Wg n (i+1)) [] E2 V2 a2->Q .normal a2 V2):WP true SA none cd Q a1 V1:=by
 subst hcd;refine wp_seq (wp_block (wp_seq ?_));refine h.ok.to ((7,.op (Hs.length+5) 0)::jz Hs Wg n i) [.cells [iv i] 3] ?_ λE2 V2 a2 cG ce=> ?_
 ·unfold jz dq;refine ak ?_;exact ey (by simp only[seval];simp[bu,Wk.refl]) rfl
 have h2:=h.step cG ce;obtain⟨V3,g3,o3,r3,d3,Gw,IH,Pp⟩:=ce.ah.br.G9 (id:=Hs.length+5) (by rw[aX];rfl) 1 (by simp);rw[dU]at IH;have KP:Kept E2 {E2 with I:=V3.ab} V2 V3 a2 a2:=⟨Gw,rfl,rfl,r3,d3⟩;have dE:=ce.step (T':=(7,.op (Hs.length+5) 0)::jz Hs Wg n i) (M':=[.part 1 [iv i] 3]) KP ⟨IH,ce.ah.tok.mono Gw,ce.ah.size⟩;have h3:=h2.step KP dE;refine WP.ghost g3 ?_;generalize{E2 with I:=V3.ab}=E3 at Gw IH Pp KP dE h3;have e6:a2.eval (.tmp 6)=pW Wg 0:=us (dE.ah.tok 6 (.val (pW Wg 0)) rfl).2;obtain⟨w1,w2,w3⟩:=dE.ah.br.fr Wg _ h3.B3;have hrc:V3.role.chan≠some Wg:=by rw[h3.role];intro e;cases e;exact dE.ne rfl
 refine wp_seq (ady rfl rfl (anV rfl rfl (by kernel_rfl) ?_));have cN:(#[as_ 6,aub (.int .i64 1)]:Array Th).map a2.eval=#[pW Wg 0,.int .i64 1]:=by
  simp only[List.map_toArray,UW,List.map_nil,e6];rfl
 rw[cN];refine(aeE (n:=i) (sm:=NS SA) (by omega) w1 w2 hrc dE.deaf).mono λo V4 hV=> ?_;obtain⟨rfl,rfl⟩:=hV;dsimp only;refine asl ?_;let wU:Obj:=wgBlock SA (((i+1:Nat):Int)* 4294967296) 0;show WP true SA none _ _ (a2.put (some 19) (.tuple #[])) (V3.upd Wg wU);have sP:=dE.ah.br.ajd h3.B3 wU;let f4:Nat->Option Obj:=λb'=>if b'=Wg then some wU else E3.fr b';have me:jr x deep Hs E c Wg rv dv fv ((7,.op (Hs.length+5) 0)::jz Hs Wg n i) [.part 1 [iv i] 3] (E3.frame f4) (V3.upd Wg wU) (a2.put (some 19) (.tuple #[])):=by
  refine⟨⟨sP,λt av e=> ?_,(dX a2 (some 19) _).trans dE.ah.size⟩,dE.lo.trans (Env.GA E3 f4),dE.main,(put_defers a2 _ _).trans dE.defers,dE.deaf,dE.er,dE.ed,dE.ef,dE.dr.frame f4,dE.dd.frame f4,dE.df.frame f4,λb y e=> ?_,dE.ne⟩
  ·have aH:t≠19:=by
    intro et;subst et;simp[jz,look]at e
   have:=((dE.ah.tok.frame f4).put (d:=19) (a:=.aL []) (v:=.tuple #[]) (by rw[dE.ah.size];omega) (.aL rfl (by simp))) t av (by simp only[look];rw[if_neg (Ne.symm aH)];exact e);exact this
  ·obtain⟨q1,q2,q3⟩:=dE.fr b y e;exact⟨by show (if b=Wg then _ else _)=_;rw[if_neg q3];exact q1,q2,q3⟩
 have PB:ap (E3.frame f4) (.rp [iv i]) (.pointer (some ⟨(E3.frame f4).blk (Hs.length+5),0,none⟩)):=by
  have hl:Hs.length+5<E2.n:=by rw[ce.ah.br.n];simp[dq]
  have e:(E3.frame f4).blk (Hs.length+5)=E2.blk (Hs.length+5):=Gw.blk _ hl;rw[e];exact Pp.frame f4
 have Hd:(V3.upd Wg wU).role=.fork c Wg (oM x deep i):=h3.role;have Qy:(E3.frame f4).fr c=some sO:=by
  show (if c=Wg then _ else _)=_;rw[if_neg dE.ne];exact h3.Fc
 have Qz:(E3.frame f4).fr Wg=some wU:=by
  show (if Wg=Wg then _ else _)=_;rw[if_pos rfl]
 generalize E3.frame f4=E4 at me PB Qy Qz;generalize V3.upd Wg wU=V4 at me Hd;generalize a2.put (some 19) (.tuple #[])=a4 at me;clear sP;refine HJ (K:=λs'=>look s'.T 20=some (.fn (.func 97) [] [.val (pW Wg 0),.op Hs.length 0,.op (Hs.length+5) 0,.op (Hs.length+1) 0,.op (Hs.length+3) 0])/\s'.Sub ⟨jz Hs Wg n i,Hs++(dq x deep c++[.part 1 [iv i] 3])⟩) 1 1 rfl (by kernel_rfl) me.ah ?_ λE5 V5 a5 s5 gq kj hK=> ?_
 ·unfold jz dq;(try simp only[seval,T_,UD,Uj,TP]);exact ey (by simp only[seval];simp[bu,Wk.refl]) rfl
 obtain⟨l20,lS⟩:=hK;have Fy:=kj.sub lS;have cy:=me.step gq Fy;have DE:V5.role=.fork c Wg (oM x deep i):=gq.role.trans Hd;have vW:E5.fr c=some sO:=by rw[gq.le.fr];exact Qy
 have B4:E5.fr Wg=some wU:=by rw[gq.le.fr];exact Qz
 have dk5:=PB.mono gq.le;have qn:Hs.length+5<E4.n:=by rw[me.ah.br.n];simp[dq]
 refine N0 rfl rfl ?_;obtain⟨c1,c2,c3⟩:=cy.ah.br.fr c _ vW;obtain⟨v1,v2,v3⟩:=cy.ah.br.fr Wg _ B4;have e20:a5.eval (.tmp 20)=.func (.func 97) #[] #[pW Wg 0,rv,.pointer (some ⟨E5.blk (Hs.length+5),0,none⟩),dv,fv]:=by
  obtain⟨fa,ca,q1,q2,q3⟩:=Pt (kj.tok 20 _ l20).2;rw[ES q2]at q1;refine q1.trans ?_;have Ln:ca.size=5:=q3.1;have k0:=us (q3.2 0 _ rfl);have k1:=BT (q3.2 1 _ rfl);have k2:=BT (q3.2 2 _ rfl);have k3:=BT (q3.2 3 _ rfl);have k4:=BT (q3.2 4 _ rfl);rw[<- cy.er]at k1;rw[<- cy.ed]at k3;rw[<- cy.ef]at k4;congr 1;refine Array.ext Ln λj h1 h2=> ?_;have hj:j=0\/j=1\/j=2\/j=3\/j=4:=by omega
  rw[SH,SJ (by omega)]at k0 k1 k2 k3 k4;rcases hj with rfl|rfl|rfl|rfl|rfl
  ·exact k0
  ·exact k1
  ·exact k2
  ·exact k3
  ·exact k4
 refine⟨rfl,.tmp 20,97,#[],_,rfl,e20,cy.deaf,.inl ⟨c,Wg,oM x deep i,qI x deep i,[],DE,c1,?_,?_,v2,λJ0 C=> ?_,?_⟩⟩
 ·rw[v1,Nz]
 ·rw[Nz];omega
 ·have hb:E5.blk (Hs.length+5)=E4.blk (Hs.length+5):=gq.le.blk _ qn;rw[hb];have:=asf (J:=J0) (V:={ab:=V5.ab,own:=λ_=>none,deaf:=0,role:=.work c Wg [qI x deep i]}) C hx hi (hA i hi) (agv cy.ah.br.I rfl rfl) (cy.dr.bare (am0 x)) (dk5.bare (by simp[yn,eK])) (cy.dd.bare (by simp[yn,eK])) (cy.df.bare (by simp[yn,eK])) rfl rfl;simpa using this
 let V6:View:={V5 with role:=.fork c Wg (oM x deep i++[[qI x deep i]])};have II:Conc (E5.frame E5.fr) V6 (Hs++(dq x deep c++[.part 1 [iv i] 3])):=by
  refine cy.ah.br.yz (V':=V6) _ rfl (λ_ _ _ _ _ _ h=>h) (λg hg=> ?_) (λg hg=> ?_) (λhm=>by rw[cy.main]at hm;cases hm) cy.ah.br.fr
  ·cases hg;exact⟨by show V5.own Wg≠none;rw[v1];simp,v2,v3⟩
  ·cases hg;exact⟨by show V5.own c≠none;rw[c1];simp,c2,c3⟩
 have ow:jr x deep Hs E c Wg rv dv fv (jz Hs Wg n i) [.part 1 [iv i] 3] E5 V6 (a5.put none undef):=⟨⟨II,cy.ah.tok,cy.ah.size⟩,cy.lo,cy.main,cy.defers,cy.deaf,cy.er,cy.ed,cy.ef,cy.dr,cy.dd,cy.df,cy.fr,cy.ne⟩;show WP true SA none _ _ (a5.put none undef) V6;refine ow.to (jz Hs Wg n (i+1)) [.part 1 [iv i] 3] ?_ λE7 V7 a7 oA Cp=> ?_
 ·unfold jz dq;have hw:SD.wrap ((i:Int)+1)=(i:Int)+1:=bA _ (by omega);refine ai ?_;simp only[seval,hw];exact ey (by simp only[seval];simp[bu,Wk.refl]) rfl
 have fE:=jr.cut (M:=[]) (T':=jz Hs Wg n (i+1)) Cp zC (by
  unfold jz;simp only[Wp,S0,false_imp_iff,implies_true,and_true,look,Zw,if_false,if_true,Tj,exists_eq_left',Wk.refl,true_and,eK,aaS,UN];omega) au
 refine hQ _ V7 a7 ⟨fE,?_,?_,?_⟩
 ·rw[oA.role,aqv]
 ·show E7.fr c=_;rw[oA.le.fr];exact vW
 ·show E7.fr Wg=_;rw[oA.le.fr];exact B4
end
namespace Tk
theorem abN{hs:List (List Int)}{h:List Int}(hn:hs.Nodup):(jM hs h).Nodup:=by
 unfold jM;split
 ·exact hn
 ·rename_i hm;rw[U7];exact⟨hn,by simp,λa ha b hb=>by rw[S8.1 hb];exactλe=>hm (e▸ha)⟩
theorem arm{x:aj}{deep:Int}{Q:Kn}{t:List Int}(hn:Q.aK.Nodup):(eE x deep Q t).aK.Nodup:=by
 have hB:(jV Q t).aK.Nodup:=by unfold jV;split<;>exact hn
 unfold eE;dsimp only;generalize jV Q t=R at hB;split
 ·exact hB
 ·split
  ·exact abN hB
  ·exact hB
theorem asd{x:aj}{deep:Int}{bi:Nat}:(gL x deep bi).aK.Nodup:=by
 unfold gL;have key:∀(ts:List (List Int))(Q:Kn),Q.aK.Nodup->(ts.foldl (eE x deep) Q).aK.Nodup:=by
  intro ts;induction ts with
  |nil=>exactλQ h=>h
  |cons t ts ih=>exactλQ h=>ih _ (arm h)
 exact key _ _ WM
theorem Qm:∀{l hs:List (List Int)},(∀y∈hs,y.length=4)->(∀y∈l,y.length=4)->∀y∈l.foldl jM hs,y.length=4
 |[],hs,h1,_=>h1
 |a::l,hs,h1,h2=>by rw[UZ];exact Qm (abL h1 (h2 a (by simp))) (λy hy=>h2 y (by simp[hy]))
theorem GV{l m:List Nat}(h:l.length=m.length):(lX l m).length=l.length:=by simp[lX,h]
theorem GW{l m:List Nat}(h1:∀n∈l,n<65536)(h2:∀n∈m,n<65536):∀n∈lX l m,n<65536:=λn hn=>by
 unfold lX at hn;rw[UR]at hn;obtain⟨i,hi⟩:=hn;rw[List.getElem?_zipWith]at hi;cases ha:l[i]?with
 |none=>rw[ha]at hi;cases hi
 |some a=>
  cases hb:m[i]?with
  |none=>rw[ha,hb]at hi;cases hi
  |some b=>
   rw[ha,hb]at hi;cases hi;exact pI (h1 _ (Tc ha)) (h2 _ (Tc hb))
theorem aat{F G:Kn}{hs:List (List Int)}(hF:bJ F)(hG:bJ G)(hp:hs.Perm G.aK):bJ (gW F hs G):=by
 unfold gW;split
 ·refine⟨(GV (by rw[hF.aA,hG.aA])).trans hF.aA,(GV (by rw[hF.hours,hG.hours])).trans hF.hours,(GV (by rw[hF.less,hG.less])).trans hF.less,(GV (by rw[hF.aU,hG.aU])).trans hF.aU,?_,GW hF.mv hG.mv,GW hF.mK hG.mK,GW hF.mR hG.mR,GW hF.lY hG.lY,Qm hF.h4 λy hy=>hG.h4 y (hp.mem_iff.1 hy)⟩;split
  ·exact hG.first
  ·exact hF.first
 ·exact hF
inductive nY (x:aj)(deep:Int):List Nat->Kn->Prop where
 |nil:nY x deep [] Kn.zero
 |snoc {js:List Nat} {F:Kn} {j:Nat} {hs:List (List Int)} (h:nY x deep js F) (hp:hs.Perm (gL x deep j).aK):nY x deep (js++[j]) (gW F hs (gL x deep j))
end Tk
theorem xa.work{x:aj}{deep:Int}{j:Nat}(hA:xa x)(hx:x.Ok)(hj:j<=3):bJ (gL x deep j):=NV hx (hA j hj)
def mU (x:aj)(deep:Int)(n:Nat)(js:List Nat):List (List Spec):=(SZ n).map λk=>if k∈js then[]else[qI x deep k]
theorem aqy(x:aj)(deep:Int)(n:Nat):mU x deep n []=oM x deep n:=by simp[mU,oM]
theorem aqx{x:aj}{deep:Int}{n j:Nat}{js:List Nat}{sp:Spec}{S:List Spec}(h:(mU x deep n js)[j]?=some (sp::S)):j<n/\j∉js/\sp=qI x deep j/\S=[]:=by
 unfold mU at h;rw[To]at h;obtain⟨k,h1,h2⟩:=Tq.1 h;have hk:j<n/\k=j:=by
  have:=SL.1 h1;obtain⟨h3,h4⟩:=this;simp at h3 h4;exact⟨h3,h4.symm⟩
 obtain⟨h3,rfl⟩:=hk;split at h2
 ·cases h2
 ·rename_i hm;cases h2;exact⟨h3,hm,rfl,rfl⟩
theorem aqz{x:aj}{deep:Int}{n j:Nat}{js:List Nat}:(mU x deep n js).set j []=mU x deep n (js++[j]):=by
 apply Yk;intro k;unfold mU;rw[UQ,To,To,Tn,List.length_range];by_cases hk:k<n
 ·rw[Xx hk];by_cases hj:j=k
  ·subst hj;rw[if_pos rfl,if_pos hk];simp
  ·rw[if_neg hj];have e:(k∈js++[j])<->k∈js:=by
    rw[SR,S8];exact⟨λh=>h.elim id λe=>absurd e.symm hj,.inl⟩
   simp only[UP,e]
 ·have e:(SZ n)[k]?=none:=Uv (by simp;omega);rw[e];by_cases hj:j=k
  ·subst hj;rw[if_pos rfl,if_neg hk];rfl
  ·rw[if_neg hj];rfl
theorem aqw{x:aj}{deep:Int}{n:Nat}{js:List Nat}(h:∀S∈mU x deep n js,S=[]):∀k,k<n->k∈js:=λk hk=>by
 apply Tm;intro hn;have:=h [qI x deep k] (Tl.2 ⟨k,by simpa using hk,by rw[if_neg hn]⟩);cases this
theorem al6{E:Env}{K:Kn}{mp b:Nat}(hb:E.blk mp=b)(hm:mp<E.n):ap E (.agg (K.l mp)) (.agg (rT K b).toArray):=by
 subst hb;refine .agg (by simp[Kn.l,rT]) λi a e=> ?_
 match i with
 |0=>cases e;exact .val _
 |1=>cases e;exact .mp hm
 |i+2=>
  have e':(K.l mp)[i+2]?=((K.aA.map (λn:Nat=>SF .u16 n)++(K.hours.map (λn:Nat=>SF .u16 n)++(K.less.map (λn:Nat=>SF .u16 n)++(K.aU.map (λn:Nat=>SF .u16 n)++K.first.map (SF .i64))))).map AV.val)[i]?:=by
   simp[Kn.l,wv,iv,Yv]
  rw[e',To]at e;obtain⟨z,h1,rfl⟩:=Tq.1 e;have h2:(rT K (E.blk mp))[i+2]?=some z:=h1;rw[SH,Vg,h2];exact .val _
theorem u_(K:Kn)(mp:Nat):∀a∈K.l mp,a.leaf=true:=λa ha=>by
 simp only[Kn.l,SK,SR,Tl]at ha;rcases ha with rfl|rfl|⟨_,_,rfl⟩|⟨_,_,rfl⟩|⟨_,_,rfl⟩|⟨_,_,rfl⟩|⟨_,_,rfl⟩<;>rfl
theorem afr{lv:Bool}{P:SI}{r:Option Nat}{nt:Nat}{E:Env}{V:View}{a:Act}{s:AS}{c:T4}{Q:Ex->Act->View->Prop}{α:Type}(p:α->Prop)(S3:α->AS)(ah:At E V s a nt)(h:aP lv P r nt c s (λe s'=>match e with|.normal=>∃q,p q/\s'.Sub (S3 q)|_=>False))(hQ:∀q E' V' a',p q->Kept E E' V V' a a'->At E' V' (S3 q) a' nt->Q .normal a' V'):WP lv P r c Q a V:=
 h E V a Q ah λae e E' V' a' s' hk aS he hΦ=>by
  cases ae<;>cases e<;>first
   |exact he.elim
   |exact hΦ.elim
   |(obtain⟨q,h1,h2⟩:=hΦ
     exact hQ q E' V' a' h1 hk (aS.sub h2))
theorem agK{E:Env}(l:List SP):ap E (.agg (l.map .val)) (.agg l.toArray):=by
 refine .agg (by simp) λi a e=> ?_;rw[To]at e;obtain⟨z,h1,rfl⟩:=Tq.1 e;rw[SH,Vg,h1];exact .val _
def N9:List SP:=.bool false:: .map none::(TH 15 (.int .u16 0)++TH 11 (.int .i64 0))
def io (Hs:List aa)(F:Kn):List aa:=[setH F.aK,.cells (F.l (Hs.length+5)) 88]
noncomputable def jn (Hs:List aa):List (Nat×AV):=[(8,.op (Hs.length+6) 0),(5,.op (Hs.length+3) 0),(4,.op (Hs.length+2) 0)]
structure Es (x:aj)(deep:Int)(n:Nat)(Hs:List aa)(E:Env)(c Wg:Nat)(rv dv fv:SP)(js:List Nat)(F:Kn)(T:List (Nat×AV))(G:List aa)(E':Env)(V':View)(a':Act):Prop where
 ok:jr x deep Hs E c Wg rv dv fv T (io Hs F++G) E' V' a'
 role:V'.role=.recv c Wg (mU x deep n js)
 aau:nY x deep js F
 kn:bJ F
 nodup:js.Nodup
 lt:∀j∈js,j<n
noncomputable def aaB:T4:=ci (ci (cs (cs (cs mr))))
theorem al7{x:aj}{deep:Int}{Hs:List aa}{c:Nat}{F:Kn}(hH:bI Hs):bI (Hs++(dq x deep c++io Hs F)):=by
 refine aaC hH λz hz=> ?_;simp only[io,SK,S0,or_false]at hz;rcases hz with rfl|rfl
 ·trivial
 ·exact yi (by simp[io])
theorem am7{V:View}{Im:cw}{b:Nat}{K:Kn}{w:Tp}(hS:Sat V w)(hI:∀b o x,Im b o=some x->w.cell? ⟨b,o,none⟩=some x)(hb:w.heap[b]?=some (rS K)):∀o,V.ab b o=none/\Im b o=none:=λo=>by
 have hc:w.cell? ⟨b,o,none⟩=none:=by simp[Uz,hb,rS]
 constructor
 ·cases h:V.ab b o with
  |none=>rfl
  |some v=>have:=hS.ab b o v h;rw[hc]at this;cases this
 ·cases h:Im b o with
  |none=>rfl
  |some v=>have:=hI b o v h;rw[hc]at this;cases this
section
variable {x:aj}{deep:Int}{n:Nat}{Hs:List aa}{E:Env}{c Wg:Nat}{js:List Nat}{D:Kn}{rv dv fv:SP}{T T':List (Nat×AV)}{G G':List aa}{E1 E2:Env}{V1 V2:View}{a1 a2:Act}
theorem al9(hx:x.Ok)(hA:xa x)(Sa:n<=4)(zC:E.n<=Hs.length)(bQ:bI Hs)(h:Es x deep n Hs E c Wg rv dv fv js D (jn Hs) [] E1 V1 a1){Q:Ex->Act->View->Prop}
  (hQ:∀j D' E2 V2 a2,j∉js->Es x deep n Hs E c Wg rv dv fv (js++[j]) D' (jn Hs) [] E2 V2 a2->Q .normal a2 V2)
  (Ft:∀E2 V2 a2 G,At E2 V2 ⟨[(4,.op (Hs.length+2) 0)],Hs++([.part 6 x.l 76,.part 1 [iv deep] 3,.cells (D.l (Hs.length+5)) 88,.part 1 [.val (.chan (some c))] 139,.gone,setH D.aK]++G)⟩ a2 35->E.Lo E2->a2.defers=[]->V2.deaf=0->V2.role=.plain->(∀b y,E.fr b=some y->E2.fr b=some y)->(∀k,k<n->k∈js)->Q .ret a2 V2):WP true SA none aaB Q a1 V1:=by
 refine wp_block (id:=3) (wp_seq ?_);refine HJ (K:=λs'=>look s'.T 26=some (.val (.chan (some c)))/\s'.Sub ⟨jn Hs,Hs++(dq x deep c++(io Hs D++[]))⟩) 1 7 rfl (by kernel_rfl) h.ok.ah ?_ λE3 V3 a3 s3 wn qe hK=> ?_
 ·unfold jn dq io;(try simp only[seval]);exact ey (by simp only[seval];simp[bu,Wk.refl]) rfl
 obtain⟨l26,lS⟩:=hK;have dE:=h.ok.step wn (qe.sub lS);have ro3:V3.role=.recv c Wg (mU x deep n js):=wn.role.trans h.role;have e26:a3.eval (.tmp 26)=.chan (some c):=us (qe.tok 26 _ l26).2;obtain⟨ti,wz,hzi⟩:=Te.1 F.Ol;refine asj rfl rfl (.inr ?_);refine⟨rfl,c,Wg,mU x deep n js,.both,88,ti,_,e26,by kernel_rfl,wz,hzi,ro3,dE.deaf,λj sp S v Im Ow r1 r2 r3 r4 r5=> ?_,λhS=> ?_⟩
 ·
  obtain⟨oz,iC,rfl,rfl⟩:=aqx r1;obtain⟨b,hv,JS⟩:=r2;have xF:bJ (gL x deep j):=hA.work hx (by omega);have Q4:(gL x deep j).aK.Nodup:=asd;obtain⟨W,hW⟩:∃W,W=gL x deep j:=⟨_,rfl⟩;rw[<- hW]at hv JS xF Q4;let pQ:View:={V3 with ab:=λb o=>match V3.ab b o with|some x=>some x|none=>Im b o,role:=.recv c Wg ((mU x deep n js).set j [])};obtain⟨aaF,Pg⟩:=dE.ah.br.amy (V':=pQ) rfl (λb o v e=>by show (match V3.ab b o with|some x=>some x|none=>Im b o)=some v;rw[e]) (λb o hb e=>by
   show (match V3.ab b o with|some x=>some x|none=>Im b o)=none;rw[e];apply Tm;intro aH;exact absurd e (r4 b o hb aH)) rfl rfl (λhm=>by rw[dE.main]at hm;cases hm)
  have JR:Ow b=some (rS W):=by rw[JS];simp
  obtain⟨w,hSw,hIw,hww⟩:=r5;have jF:=am7 hSw hIw (hww b _ JR);have ep:V3.own b=none:=by
   apply Tm;intro aH;have:=r3 b aH;rw[JR]at this;cases this
  have Kt:pQ.fresh b:=⟨ep,λo=>by
   show (match V3.ab b o with|some x=>some x|none=>Im b o)=none;rw[(jF o).1];exact(jF o).2⟩
  have akA:E3.n=Hs.length+7:=by rw[dE.ah.br.n];simp[dq,io]
  have sP:=Pg.add Kt (rS W) (x:=.obj (rS W)) ⟨by rw[Env.dL];simp[View.upd],rfl,rfl,λo=>by rw[Env.dL];exact Kt.2 o⟩ (λb' e=>by
   simp only[bL,Env.dL,Tj]at e;exact e.symm)
  have QZ:pQ.upd b (rS W)={V3 with ab:=λb o=>match V3.ab b o with|some x=>some x|none=>Im b o,own:=λb=>match V3.own b with|some x=>some x|none=>Ow b,role:=.recv c Wg ((mU x deep n js).set j [])}:=by
   have:(λb'=>if b'=b then some (rS W)else V3.own b')=λb=>match V3.own b with|some x=>some x|none=>Ow b:=by
    funext b';by_cases hb:b'=b
    ·subst hb;rw[if_pos rfl,ep,JR]
    ·rw[if_neg hb];cases dD:V3.own b' with
     |some y=>rfl
     |none=>simp[JS,hb]
   show View.mk _ _ _ _=View.mk _ _ _ _;congr 1
  have QQ:(({E3 with I:=pQ.ab}:Env).add b pQ.ab).blk (Hs.length+7)=b:=by rw[<- akA];exact Env.dL ({E3 with I:=pQ.ab}:Env) b _
  have Mn:E3.Le (({E3 with I:=pQ.ab}:Env).add b pQ.ab):=aaF.trans (Env.qC _ b λ_ _ _ e=>e);have akG:(({E3 with I:=pQ.ab}:Env).add b pQ.ab).n=Hs.length+8:=by show E3.n+1=_;omega
  rw[QZ]at sP;generalize hE4:(({E3 with I:=pQ.ab}:Env).add b pQ.ab)=E4 at sP QQ Mn akG;have bp:ap E4 (.aL [.agg (W.l (Hs.length+7)),bv true]) (.tuple #[v,.bool true]):=by
   subst hv;refine .aL rfl λq a e=> ?_
   match q,e with
   |0,e=>cases e;exact al6 QQ (by omega)
   |1,e=>cases e;exact .val _
  have ajG:Hs++(dq x deep c++(io Hs D++[]))++[aa.obj (rS W)]=Hs++(dq x deep c++(io Hs D++[setH W.aK])):=by simp[setH,rS]
  rw[ajG]at sP;clear QZ hE4 Pg aaF Kt;generalize Q2:({V3 with ab:=λb o=>match V3.ab b o with|some x=>some x|none=>Im b o,own:=λb=>match V3.own b with|some x=>some x|none=>Ow b,role:=.recv c Wg ((mU x deep n js).set j [])}:View)=V4 at sP;have Hd:V4.role=.recv c Wg (mU x deep n (js++[j])):=by rw[<- Q2];show mY.recv c Wg _=_;rw[aqz]
  have de4:V4.deaf=V3.deaf:=by rw[<- Q2]
  have rA:At E4 V4 ⟨(27,.aL [.agg (W.l (Hs.length+7)),bv true])::jn Hs,Hs++(dq x deep c++(io Hs D++[setH W.aK]))⟩ (a3.put (some 27) (.tuple #[v,.bool true])) 35:=⟨sP,(dE.ah.tok.mono Mn).put (by rw[dE.ah.size];omega) bp,(dX a3 (some 27) _).trans dE.ah.size⟩;have me:jr x deep Hs E c Wg rv dv fv ((27,.aL [.agg (W.l (Hs.length+7)),bv true])::jn Hs) (io Hs D++[setH W.aK]) E4 V4 (a3.put (some 27) (.tuple #[v,.bool true])):=
   dE.Hr Mn (put_defers a3 _ _) de4 rA
  have Fu:=Kn.len xF (Hs.length+7);refine N1 ⟨(10,bv true)::(9,.op (Hs.length+8) 0)::jn Hs,Hs++(dq x deep c++(io Hs D++[setH W.aK,.cells (W.l (Hs.length+7)) 88]))⟩ rfl (by kernel_rfl) rA ?_ λE5 V5 a5 gq kj=> ?_
  ·unfold jn dq io;(try simp only[seval,Fu]);exact⟨u_ _ _,ey (by simp only[seval];simp[bu,Wk.refl]) rfl⟩
  have cy:=me.step gq kj;have DE:V5.role=.recv c Wg (mU x deep n (js++[j])):=gq.role.trans Hd;refine wp_seq (wp_seq ?_);refine cy.to ((31,bv false)::(9,.op (Hs.length+8) 0)::jn Hs) (io Hs D++[setH W.aK,.cells (W.l (Hs.length+7)) 88]) ?_ λE6 V6 a6 KO ow=> ?_
  ·unfold jn dq io;refine ak ?_;exact ey (by simp only[seval];simp[bu,Wk.refl]) rfl
  refine NX ow.ah rfl ?_;refine wp_skip ?_;refine afr (λhs:List (List Int)=>hs.Perm W.aK) (λhs=>⟨jn Hs,Hs++(dq x deep c++(io Hs (gW D hs W)++[setH W.aK,.cells (W.l (Hs.length+7)) 88]))⟩) ow.ah ?_ λhs E7 V7 a7 La oA J6=> ?_
  ·unfold jn dq io;refine ai ?_;simp only[seval,Fu];rw[SX (i:=28) (by omega)];refine aI ((ahF (fp:=Hs.length+6) (mp:=Hs.length+5) (mg:=Hs.length+7) h.kn xF (by omega) (by omega) (by rw[aX];rfl) (by rw[aX];rfl) (by rw[aX];rfl) Q4 ?_));intro hs hp;rw[dU,dU];(try simp only[seval]);exact⟨hs,hp,ey (by simp only[seval];simp[bu,Wk.refl]) rfl⟩
  have Cp:=ow.step oA J6;have fE:=jr.cut (T':=jn Hs) Cp zC (by
   unfold jn io;simp only[Wp,S0,false_imp_iff,implies_true,and_true,look,Zw,if_false,if_true,Tj,exists_eq_left',Wk.refl,true_and,aaS,Ul,UN];omega) (al7 bQ)
  have jG:nY x deep (js++[j]) (gW D hs W):=by
   rw[hW]at La⊢;exact h.aau.snoc La
  refine hQ j (gW D hs W) _ V7 a7 iC ⟨by rw[SO];exact fE,?_,jG,aat h.kn xF La,?_,?_⟩
  ·rw[oA.role,KO.role];exact DE
  ·rw[U7];exact⟨h.nodup,by simp,λa ha b hb=>by rw[S8.1 hb];exactλe=>iC (e▸ha)⟩
  ·intro k hk;rcases SR.1 hk with h'|h'
   ·exact h.lt k h'
   ·rw[S8.1 h'];exact oz
 ·
  have fD:=aqw hS;let V4:View:={V3 with role:=.plain};have sP:Conc (E3.frame E3.fr) V4 (Hs++(dq x deep c++(io Hs D++[]))):=
   dE.ah.br.yz (V':=V4) _ rfl (λ_ _ _ _ _ _ h=>h) (λg hg=>by cases hg) (λg hg=>by cases hg) (λhm=>by rw[dE.main]at hm;cases hm) dE.ah.br.fr
  have bp:ap E3 (.aL [.agg jp,bv false]) (.tuple #[.agg N9.toArray,.bool false]):=by
   refine .aL rfl λq a e=> ?_
   match q,e with
   |0,e=>cases e;exact agK N9
   |1,e=>cases e;exact .val _
  have rA:At E3 V4 ⟨(27,.aL [.agg jp,bv false])::jn Hs,Hs++(dq x deep c++(io Hs D++[]))⟩ (a3.put (some 27) (.tuple #[.agg N9.toArray,.bool false])) 35:=⟨sP,dE.ah.tok.put (by rw[dE.ah.size];omega) bp,(dX a3 (some 27) _).trans dE.ah.size⟩;have me:=dE.Hr (V2:=V4) (Env.Le.refl E3) (put_defers a3 (some 27) _) rfl rA;have oD:jp.length=28:=rfl;have bS:=Kn.len h.kn (Hs.length+5);refine N1 ⟨(10,bv false)::jn Hs,Hs++(dq x deep c++(io Hs D++[.cells jp 88]))⟩ rfl (by kernel_rfl) rA ?_ λE5 V5 a5 gq kj=> ?_
  ·unfold jn dq io;(try simp only[seval,oD]);exact⟨λa ha=>by simp only[jp,SK,SR,Xw]at ha;rcases ha with rfl|rfl|⟨_,rfl⟩|⟨_,rfl⟩<;>rfl,ey (by simp only[seval];simp[bu,Wk.refl]) rfl⟩
  have cy:=me.step gq kj;refine wp_seq (wp_seq ?_);refine cy.to ((31,bv true)::jn Hs) (io Hs D++[.cells jp 88]) ?_ λE6 V6 a6 KO ow=> ?_
  ·unfold jn dq io;refine ak ?_;exact ey (by simp only[seval];simp[bu,Wk.refl]) rfl
  refine NX ow.ah rfl ?_;refine wp_seq ?_;refine zb ⟨[(4,.op (Hs.length+2) 0)],Hs++([.part 6 x.l 76,.part 1 [iv deep] 3,.cells (D.l (Hs.length+5)) 88,.part 1 [.val (.chan (some c))] 139,.gone,setH D.aK]++[.cells (D.l (Hs.length+5)) 88,.cells jp 88])⟩ ow.ah ?_ λE7 V7 a7 oA J6=> ?_
  ·unfold jn dq io;refine ai ?_;simp only[seval,bS,oD];rw[SX (i:=28) (l:=D.l (Hs.length+5)) (by omega)];exact⟨bS,by omega,u_ _ _,ey (by simp only[seval];simp[bu,Wk.refl]) (by rw[bS,TV (by rw[oD];exact SQ _),SO])⟩
  refine wp_ret ?_;exact Ft E7 V7 a7 _ J6 (ow.lo.trans oA.le.lo) (oA.defers.trans ow.defers) (oA.deaf.trans ow.deaf) (oA.role.trans (KO.role.trans gq.role)) (λb y e=>by rw[oA.le.fr];exact(ow.fr b y e).1) fD
end
open Go.Conc Go.Proofs Go.Gg.Tk
theorem apy{P:SI}{rs:List UO}{fn:YB}{nt:Nat}{k kp:AV->List aa->Prop}{E E':Env}{V V':View}{H L G:List aa}{T:List (Nat×AV)}{a':Act}{av:AV}(hr:fn.results=rs.toArray)(ah:At E' V' ⟨T,H.map strip++(L++G)⟩ a' nt)(pn:E.Lo E')(hc:Conc E V H)(b8:V'.role=V.role)(eW:V'.deaf=V.deaf)(hf:∀b y,E.fr b=some y->E'.fr b=some y)
  (gr:gY P ⟨T,H.map strip++(L++G)⟩ rs=some [av]) (hL:L.map strip=L) (au:bI (H.map strip++L)) (hlt:Lt (H.length+L.length) av) (hk:k av (H++L)):∃v,aO P V' (results fn a'.tmps) (λx aR=>x=v/\aR=V') (λ_ _=>False)/\gQ E V k kp (.ret v) V':=by
 obtain⟨vs,hl,lV,xZ⟩:=Hb ah rs [av] gr;obtain⟨v,rfl⟩:∃v,vs=[v]:=List.length_eq_one_iff.1 hl;have bp:ap E' av v:=lV 0 av rfl;have qx:aO P V' (results fn a'.tmps) (λx aR=>x=v/\aR=V') (λ_ _=>False):=by
  unfold results;rw[hr,XW];refine az ?_;refine az (xZ ?_);refine aq (aq ⟨?_,rfl⟩);simp
 have Ke:=ah.br;dsimp only at Ke;rw[<- SC]at Ke;have fE:=Ke.trim (H:=H.map strip++L) (G:=G) au;have hlen:(H.map strip++L).length=H.length+L.length:=by simp
 rw[hlen]at fE;have uP:(H++L).map strip=H.map strip++L:=by rw[TD,hL]
 rw[<- uP]at fE;refine⟨v,qx,av,((({E' with n:=H.length+L.length}:Env).fj E.main).frame E.fr),H++L,?_,b8,eW,?_,fE.apo E.main E.fr (λk e=> ?_) (λe=>by rw[b8,eW];exact hc.top e) hf,hk⟩
 ·refine Env.Lo.le (E':={E' with n:=H.length+L.length}) ⟨pn.I,?_,pn.blk,pn.fA,pn.room⟩;show E.n<=H.length+L.length;rw[hc.n];omega
 ·exact((bp.trim hlt).fj E.main).frame E.fr
 ·by_cases CC:k<H.length
  ·rw[SW CC]at e;exact hc.obj k _ e
  ·rw[S9 (by omega)]at e;have h2:(L.map strip)[k-H.length]?=some .gone:=(by rw[To,e];rfl);rw[hL,e]at h2;cases h2
section
variable {x:aj}{deep:Int}{Hs:List aa}{E:Env}{c Wg p:Nat}{rv dv fv:SP}{T:List (Nat×AV)}{E1:Env}{V1:View}{a1:Act}
theorem ama(hx:x.Ok)(hA:xa x)(hp:x.am=p)(zC:E.n<=Hs.length)(bQ:bI Hs)(h:vD x deep Hs E c Wg rv dv fv 0 [(6,.val (pW Wg 0)),(5,.op (Hs.length+3) 0),(4,.op (Hs.length+2) 0),(3,.op (Hs.length+1) 0),(2,.op Hs.length 0)] [] E1 V1 a1){Q:Ex->Act->View->Prop}
  (hQ:∀js D E2 V2 a2 G,js.Perm (SZ (p+1))->nY x deep js D->bJ D->At E2 V2 ⟨[(4,.op (Hs.length+2) 0)],Hs++([.part 6 x.l 76,.part 1 [iv deep] 3,.cells (D.l (Hs.length+5)) 88,.part 1 [.val (.chan (some c))] 139,.gone,setH D.aK]++G)⟩ a2 35->E.Lo E2->a2.defers=[]->V2.deaf=0->V2.role=.plain->(∀b y,E.fr b=some y->E2.fr b=some y)->Q .ret a2 V2):WP true SA none mr Q a1 V1:=by
 have hp3:p<=3:=by have:=hx.am;omega
 have akS:bI (Hs++(dq x deep c++[])):=aaC bQ (by simp);refine wp_seq (x:=cf mr) (wp_seq (x:=cf (cf mr)) ?_);refine h.ok.to (jz Hs Wg ((p+1:Nat):Int) 0) [] ?_ λE2 V2 a2 cG ce=> ?_
 ·show aP true SA none 35 (cf (cf mr)) _ _;unfold jz dq;have bO:x.l=[iv x.first,iv x.hours,iv x.am,dS x.seen,aW x.pieces,aW x.aB]:=rfl;have hw:SD.wrap (x.am+1)=((p+1:Nat):Int):=by rw[hp,bA _ (by omega)];rfl
  refine ai ?_;simp only[seval,bO,hw];exact ey (by simp only[seval];simp[bu,Wk.refl]) rfl
 have h2:vD x deep Hs E c Wg rv dv fv 0 (jz Hs Wg ((p+1:Nat):Int) 0) [] E2 V2 a2:=h.step cG ce;refine wp_block (id:=0) (c:=.loop (ci (ci (cs (cf mr))))) ?_;refine wp_loop (λm a' V'=>∃E' i,m=p+1-i/\i<=p+1/\vD x deep Hs E c Wg rv dv fv i (jz Hs Wg ((p+1:Nat):Int) i) [] E' V' a') (p+1) ⟨E2,0,rfl,by omega,h2⟩ λm a3 V3 hI=> ?_;obtain⟨E3,i,rfl,hi,h3⟩:=hI;refine wp_seq (x:=cf (ci (ci (cs (cf mr))))) (y:=cs (ci (ci (cs (cf mr))))) ?_;refine h3.ok.to ((17,bv (decide ((i:Int)<((p+1:Nat):Int))))::jz Hs Wg ((p+1:Nat):Int) i) [] ?_ λE4 V4 a4 rE me=> ?_
 ·show aP true SA none 35 (cf (ci (ci (cs (cf mr))))) _ _;unfold jz dq;refine ak ?_;exact ey (by simp only[seval];simp[bu,Wk.refl]) rfl
 have rl:=h3.step rE me;refine wp_seq (x:=.cond (.tmp 17) .skip (.exit 0)) (y:=cs (cs (ci (ci (cs (cf mr)))))) (NX me.ah rfl ?_);by_cases RF:i<p+1
 ·rw[show decide ((i:Int)<((p+1:Nat):Int))=true from decide_eq_true (by omega)];refine wp_skip ?_;have ajQ:jr x deep Hs E c Wg rv dv fv (jz Hs Wg ((p+1:Nat):Int) i) [] E4 V4 a4:=me.Hr (Env.Le.refl E4) rfl rfl (me.ah.sub (ey (by unfold jz dq;simp only[seval];simp[bu,Wk.refl]) rfl));exact al8 hx hA zC akS ⟨ajQ,rl.role,rl.Fc,rl.B3⟩ (by omega) rfl λE5 V5 a5 h5=>⟨p+1-(i+1),by omega,E5,i+1,rfl,by omega,h5⟩
 have dx:i=p+1:=by omega
 subst dx;rw[show decide ((((p+1:Nat):Int))<((p+1:Nat):Int))=false by simp];refine wp_exit ?_;refine wp_seq (x:=cf (cs mr)) (y:=cs (cs mr)) ?_;refine HJ (K:=λs'=>look s'.T 22=some (.fn (.func 100) [] [.val (pW Wg 0),.op (Hs.length+3) 0])/\s'.Sub ⟨[(5,.op (Hs.length+3) 0),(4,.op (Hs.length+2) 0)],Hs++(dq x deep c++[])⟩) 1 1 rfl (by kernel_rfl) me.ah ?_ λE5 V5 a5 s5 gq kj hK=> ?_
 ·unfold jz dq;(try simp only[seval,T_,UD,Uj,TP]);exact ey (by simp only[seval];simp[bu,Wk.refl]) rfl
 obtain⟨Mi,lS⟩:=hK;have cy:=me.step gq (kj.sub lS);have DE:V5.role=.fork c Wg (oM x deep (p+1)):=gq.role.trans rl.role;have vW:E5.fr c=some sO:=by rw[gq.le.fr];exact rl.Fc
 have B4:E5.fr Wg=some (wgBlock SA (((p+1:Nat):Int)* 4294967296) 0):=by rw[gq.le.fr];exact rl.B3
 obtain⟨c1,c2,c3⟩:=cy.ah.br.fr c _ vW;obtain⟨v1,v2,v3⟩:=cy.ah.br.fr Wg _ B4;have e22:a5.eval (.tmp 22)=.func (.func 100) #[] #[pW Wg 0,fv]:=by
  obtain⟨fa,ca,q1,q2,q3⟩:=Pt (kj.tok 22 _ Mi).2;rw[ES q2]at q1;refine q1.trans ?_;have fW:ca.size=2:=q3.1;have k0:=us (q3.2 0 _ rfl);have k1:=BT (q3.2 1 _ rfl);rw[<- cy.ef]at k1;congr 1;refine Array.ext fW λj h1 h2=> ?_;have hj:j=0\/j=1:=by omega
  rw[SH,SJ (by omega)]at k0 k1;rcases hj with rfl|rfl
  ·exact k0
  ·exact k1
 have hfc:V5.ab (E5.blk (Hs.length+3)) 0=some (.chan (some c)):=by
  have bz:=cy.df;rw[cy.ef]at bz;generalize hp:(Value.pointer (some ⟨E5.blk (Hs.length+3),0,none⟩))=pv at bz;cases bz with
  |rp b o f h1 h2=>
   cases hp;have:=h1 0 (by simp);rw[cy.ah.br.I]at this;rw[UE]at this;rw[this,us (h2 0 _ rfl)]
 refine N0 rfl rfl ?_;refine⟨rfl,.tmp 22,100,#[],_,rfl,e22,cy.deaf,.inr ⟨c,Wg,_,DE,cy.ne,c1,?_,c2,v2,?_,?_⟩⟩
 ·rw[v1,Nz]
 ·have:=agr Wg (E5.blk (Hs.length+3)) c (Im:=V5.ab) hfc;rw[cy.ef];simpa[pW]using this
 let V6:View:={V5 with own:=λb=>if b=c\/b=Wg then none else V5.own b,role:=.recv c Wg (oM x deep (p+1))};let f6:Nat->Option Obj:=λb=>if b=c\/b=Wg then none else E5.fr b;have II:Conc (E5.frame f6) V6 (Hs++(dq x deep c++[])):=by
  refine cy.ah.br.yz (V':=V6) _ rfl (λb z k w hk kF hz=> ?_) (λg hg=>by cases hg) (λg hg=>by cases hg) (λhm=>by rw[cy.main]at hm;cases hm) (λb y hb=> ?_)
  ·have n1:b≠c:=cy.ah.br.Dq vW hk kF;have n2:b≠Wg:=cy.ah.br.Dq B4 hk kF;show (if b=c\/b=Wg then none else V5.own b)=some z;rw[if_neg (λe=>e.elim n1 n2)];exact hz
  ·by_cases zJ:b=c\/b=Wg
   ·simp only[f6,if_pos zJ]at hb;cases hb
   ·simp only[f6,if_neg zJ]at hb;obtain⟨q1,q2,q3⟩:=cy.ah.br.fr b y hb;refine⟨?_,q2,q3⟩;show (if b=c\/b=Wg then none else V5.own b)=some y;rw[if_neg zJ];exact q1
 have ow:jr x deep Hs E c Wg rv dv fv [(5,.op (Hs.length+3) 0),(4,.op (Hs.length+2) 0)] [] (E5.frame f6) V6 (a5.put none undef):=by
  refine⟨⟨II,cy.ah.tok.frame _,cy.ah.size⟩,cy.lo.trans (Env.GA E5 f6),cy.main,cy.defers,cy.deaf,cy.er,cy.ed,cy.ef,cy.dr.frame f6,cy.dd.frame f6,cy.df.frame f6,λb y e=> ?_,cy.ne⟩;obtain⟨q1,q2,q3⟩:=cy.fr b y e;refine⟨?_,q2,q3⟩;show (if b=c\/b=Wg then none else E5.fr b)=some y;rw[if_neg (λe=>e.elim q2 q3)];exact q1
 show WP true SA none (.seq (cf (cs (cs mr))) (cs (cs (cs mr)))) Q (a5.put none undef) V6;refine wp_seq ?_;refine ow.to (jn Hs) (io Hs Kn.zero) ?_ λE7 V7 a7 oA Cp=> ?_
 ·show aP true SA none 35 (cf (cs (cs mr))) _ _;unfold jn dq io;refine ak ?_;exact ey (by simp only[seval];simp[bu,Wk.refl]) rfl
 refine wp_block (id:=2) (c:=.loop aaB) ?_;have cK:Es x deep (p+1) Hs E c Wg rv dv fv [] Kn.zero (jn Hs) [] E7 V7 a7:=⟨by rw[SO];exact Cp,by rw[oA.role,aqy],.nil,Da,WM,λj hj=>by cases hj⟩;refine wp_loop (λm a' V'=>∃E' js D,m=p+1-js.length/\Es x deep (p+1) Hs E c Wg rv dv fv js D (jn Hs) [] E' V' a') _ ⟨E7,[],Kn.zero,rfl,cK⟩ λm a8 V8 hI=> ?_;obtain⟨E8,js,D,rfl,h8⟩:=hI;have hlen:∀js:List Nat,js.Nodup->(∀j∈js,j<p+1)->js.length<=p+1:=λjs hn hl=>by
  have:=hn.length_le_of_subset (l₂:=SZ (p+1)) λj hj=>by simpa using hl j hj
  simpa using this
 refine al9 hx hA (by omega) zC bQ h8 (λj D' E9 V9 a9 hj h9=> ?_) λE9 V9 a9 G ajJ Mt IV IJ Nm xx fD=> ?_
 ·have h1:=hlen _ h9.nodup h9.lt;simp only[SN,T8]at h1;exact⟨p+1-(js++[j]).length,by simp;omega,E9,js++[j],D',rfl,h9⟩
 ·have Lc:js.Perm (SZ (p+1)):=by
   refine(List.perm_ext_iff_of_nodup h8.nodup XT).2 λk=> ?_;rw[Tx];exact⟨h8.lt k,fD k⟩
  exact hQ js D E9 V9 a9 G Lc h8.aau h8.kn ajJ Mt IV IJ Nm xx
end
theorem aiq{x:aj}{deep:Int}{p:Nat}{H:List aa}{k kp:AV->List aa->Prop}(hx:x.Ok)(hA:xa x)(hp:x.am=p)(hm:H[0]?=some .main)(hk:∀js D L,js.Perm (SZ (p+1))->nY x deep js D->bJ D->L.length=5->k (.agg (D.l (H.length+5))) (H++(L++[setH D.aK]))):bh true SA 77 H [x.av,iv deep] k kp:=by
 intro E V vs hc hd;have hEm:E.main=true:=hc.obj 0 _ hm;obtain⟨ji,uE⟩:=hc.top hEm;have hn:E.n=H.length:=hc.n;refine O3 (by simp) F.f77 rfl ?_;have s8:At (E.fj false) V ⟨[(0,x.av),(1,iv deep)],H.map strip⟩ {tmps:=vs++TL (XJ.ntmps-vs.size) undef,defers:=[]} 35:=by
  have:=BJ (nt:=35) hc hd (by simp);exact⟨hc.agG,this.tok.fj false,this.size⟩
 have hlen:(H.map strip).length=H.length:=Tn _;have K6:bI (H.map strip):=s8.br.au
 suffices po:∀Hs,H.map strip=Hs->WP true SA none va (Ends SA XJ (gQ E V k kp)) {tmps:=vs++TL (XJ.ntmps-vs.size) undef,defers:=[]} V from po _ rfl
 intro Hs bQ;rw[bQ]at s8 hlen K6;have Rb:({tmps:=vs++TL (XJ.ntmps-vs.size) undef,defers:=[]}:Act).defers=[]:=rfl;generalize({tmps:=vs++TL (XJ.ntmps-vs.size) undef,defers:=[]}:Act)=a0 at s8 Rb;have bO:x.l=[iv x.first,iv x.hours,iv x.am,dS x.seen,aW x.pieces,aW x.aB]:=rfl;refine wp_seq (x:=cf va) (y:=cs va) ?_;refine zb ⟨[(4,.op (Hs.length+2) 0),(3,.op (Hs.length+1) 0),(2,.op Hs.length 0)],Hs++[.cells x.l 76,.cells [iv deep] 3,.cells jp 88]⟩ s8 ?_ λE2 V2 a2 cG uC=> ?_
 ·show aP true SA none 35 (cf va) _ _;simp only[aj.av];refine ak ?_;exact ey (by simp only[seval];simp[bu,Wk.refl]) rfl
 obtain⟨ti,wz⟩:∃i,SA.info? 88=some i:=Option.isSome_iff_exists.1 (by kernel_rfl);refine wp_seq (x:=cf (cs va)) (y:=cs (cs va)) (ady rfl rfl (anW rfl (d:=.both) (el:=88) (by kernel_rfl) wz λc wb=> ?_));let f3:Nat->Option Obj:=λb=>if b=c then some sO else E2.fr b;have qe:At (E2.frame f3) (V2.upd c sO) ⟨[(11,.val (.chan (some c))),(4,.op (Hs.length+2) 0),(3,.op (Hs.length+1) 0),(2,.op Hs.length 0)],Hs++[.cells x.l 76,.cells [iv deep] 3,.cells jp 88]⟩ (a2.put (some 11) (.chan (some c))) 35:=
  ⟨uC.br.ajb wb sO,(uC.tok.frame _).put (by rw[uC.size];omega) (.val _),(dX a2 (some 11) _).trans uC.size⟩
 refine N1 ⟨[(5,.op (Hs.length+3) 0),(4,.op (Hs.length+2) 0),(3,.op (Hs.length+1) 0),(2,.op Hs.length 0)],Hs++[.cells x.l 76,.cells [iv deep] 3,.cells jp 88,.cells [.val (.chan (some c))] 139]⟩ rfl (by kernel_rfl) qe ?_ λE4 V4 a4 rE rA=> ?_
 ·(try simp only[seval,aoc,asw,amj]);exact ey (by simp only[seval];simp[bu,Wk.refl]) rfl
 refine wp_seq (x:=cf (cs (cs va))) (y:=mr) ?_;refine zb ⟨[(6,.op (Hs.length+4) 0),(5,.op (Hs.length+3) 0),(4,.op (Hs.length+2) 0),(3,.op (Hs.length+1) 0),(2,.op Hs.length 0)],Hs++[.cells x.l 76,.cells [iv deep] 3,.cells jp 88,.cells [.val (.chan (some c))] 139,.cells [.val (.int .u64 0),.val (.int .u32 0)] 147]⟩ rA ?_ λE5 V5 a5 gq kj=> ?_
 ·show aP true SA none 35 (cf (cs (cs va))) _ _;refine ak ?_;exact ey (by simp only[seval];simp[bu,Wk.refl]) rfl
 obtain⟨wcs,LI,hwo,ye,Cs⟩:=kj.br.ajc (id:=Hs.length+4) (aX _ _ 4);have alD:=Px (l:=[.int .u64 0,.int .u32 0]) LI;subst alD;rw[dU]at Cs;simp only[UF,TZ]at Cs;have PN:=kj.ar5 (t:=6) (id:=Hs.length+4) (off:=0) rfl;have Qv:E5.fr=f3:=gq.le.fr.trans rE.le.fr;have vW:E5.fr c=some sO:=by rw[Qv];simp[f3]
 have aH:c≠E5.blk (Hs.length+4):=λe=>kj.br.Dq vW (aX Hs _ 4) rfl e.symm;have Qw:∀b y,E.fr b=some y->E5.fr b=some y/\b≠c/\b≠E5.blk (Hs.length+4):=λb y hb=>by
  have h2:E2.fr b=some y:=by rw[cG.le.fr];exact hb
  have zJ:b≠c:=λe=>by subst e;have:=(uC.br.fr b y h2).1;rw[wb.1]at this;cases this
  have h5:E5.fr b=some y:=by rw[Qv];simp[f3,zJ,h2]
  exact⟨h5,zJ,λe=>kj.br.Dq h5 (aX Hs _ 4) rfl e.symm⟩
 generalize zE:E5.blk (Hs.length+4)=Wg at hwo ye Cs PN aH Qw;let f6:Nat->Option Obj:=λb'=>if b'=Wg then some (wgBlock SA 0 0)else E5.fr b';have Rn:Conc (E5.frame f6) V5 (Hs++[.cells x.l 76,.cells [iv deep] 3,.cells jp 88,.cells [.val (.chan (some c))] 139,.gone]):=by
  have:(λb'=>if b'=Wg then some (Obj.cells #[.int .u64 0,.int .u32 0] 147 (0,0))else E5.fr b')=f6:=by
   funext b';simp only[f6,wgBlock,wgT]
  rw[<- this];exact Cs
 have Cj:At (E5.frame f6) V5 ⟨[(6,.val (pW Wg 0)),(5,.op (Hs.length+3) 0),(4,.op (Hs.length+2) 0),(3,.op (Hs.length+1) 0),(2,.op Hs.length 0)],Hs++[.cells x.l 76,.cells [iv deep] 3,.cells jp 88,.cells [.val (.chan (some c))] 139,.gone]⟩ a5 35:=by
  refine⟨Rn,λt av e=> ?_,kj.size⟩;by_cases ht:t=6
  ·subst ht;cases e;refine⟨by rw[kj.size];omega,?_⟩;have:a5.tmps.getD 6 undef=pW Wg 0:=PN;rw[this];exact .val _
  ·refine(kj.tok.frame f6) t av ?_;simp only[look]at e⊢;rw[if_neg (Ne.symm ht)]at e⊢;exact e
 clear Cs Rn;have lo6:E.Lo (E5.frame f6):=((((E.amQ false).trans cG.le.lo).trans (Env.GA E2 f3)).trans (rE.le.lo.trans gq.le.lo)).trans (Env.GA E5 f6);have MB:(E5.frame f6).main=false:=gq.le.main.trans (rE.le.main.trans cG.le.main);have agD:a5.defers=[]:=gq.defers.trans (rE.defers.trans ((put_defers a2 _ _).trans (cG.defers.trans Rb)));have ro6:V5.role=.plain:=gq.role.trans (rE.role.trans (cG.role.trans ji));have de6:V5.deaf=0:=gq.deaf.trans (rE.deaf.trans (cG.deaf.trans uE));have JA:(E5.frame f6).fr c=some sO:=by show f6 c=_;simp only[f6,if_neg aH];exact vW
 have JB:(E5.frame f6).fr Wg=some (wgBlock SA 0 0):=by show f6 Wg=_;simp[f6]
 have Qx:∀b y,E.fr b=some y->(E5.frame f6).fr b=some y/\b≠c/\b≠Wg:=λb y hb=>by
  obtain⟨q1,q2,q3⟩:=Qw b y hb;refine⟨?_,q2,q3⟩;show f6 b=_;simp only[f6,if_neg q3];exact q1
 generalize E5.frame f6=E6 at Cj lo6 MB JA JB Qx;obtain⟨V7,g7,o7,r7,d7,wE,EO,Pq⟩:=Cj.br.G9 (id:=Hs.length) (aX _ _ 0) 6 (by simp[bO]);rw[show Hs.length=Hs.length+0 from rfl,dU]at EO;simp only[TZ]at EO;have ac7:=Cj.tok.mono wE;generalize hE7:({E6 with I:=V7.ab}:Env)=E7 at wE EO Pq ac7;obtain⟨V8,g8,o8,r8,d8,vb,EP,Pr⟩:=EO.G9 (id:=Hs.length+1) (aX _ _ 1) 1 (by simp);rw[dU]at EP;simp only[UF,TZ]at EP;have ac8:=ac7.mono vb;generalize hE8:({E7 with I:=V8.ab}:Env)=E8 at vb EP Pr ac8;obtain⟨V9,g9,o9,r9,d9,vc,xk,IM⟩:=EP.G9 (id:=Hs.length+3) (aX _ _ 3) 1 (by simp);rw[dU]at xk;simp only[UF,TZ]at xk;have ac9:=ac8.mono vc;generalize hE9:({E8 with I:=V9.ab}:Env)=E9 at vc xk IM ac9;refine WP.ghost g7 (WP.ghost g8 (WP.ghost g9 ?_));have Mt:E.Lo E9:=lo6.trans ((wE.trans vb).trans vc).lo;have Nm:V9.role=.plain:=r9.trans (r8.trans (r7.trans ro6));have IJ:V9.deaf=0:=d9.trans (d8.trans (d7.trans de6));have xx:E9.fr=E6.fr:=vc.fr.trans (vb.fr.trans wE.fr);have n6:E6.n=Hs.length+5:=by rw[Cj.br.n];simp
 have b7:∀k,k<Hs.length+5->E9.blk k=E6.blk k/\E9.blk k=E7.blk k/\E9.blk k=E8.blk k:=λk hk=>by
  have n7:=wE.n;have n8:=vb.n;have q7:=wE.blk k (by omega);have q8:=vb.blk k (by omega);have q9:=vc.blk k (by omega);exact⟨by rw[q9,q8,q7],by rw[q9,q8],q9⟩
 obtain⟨c1,c2,c3⟩:=xk.fr c sO (by rw[xx];exact JA);obtain⟨v1,v2,v3⟩:=xk.fr Wg _ (by rw[xx];exact JB);refine asi (c:=c) (Wg:=Wg) rfl Nm aH c1 (by rw[v1];simp) v2 ?_;let Ic:View:={V9 with role:=.fork c Wg []};have agt:Conc (E9.frame E9.fr) Ic (Hs++(dq x deep c++[])):=by
  refine xk.yz (V':=Ic) _ rfl (λ_ _ _ _ _ _ h=>h) (λg hg=> ?_) (λg hg=> ?_) (λhm=>by rw[vc.main,vb.main,wE.main,MB]at hm;cases hm) xk.fr
  ·cases hg;exact⟨by show V9.own Wg≠none;rw[v1];simp,v2,v3⟩
  ·cases hg;exact⟨by show V9.own c≠none;rw[c1];simp,c2,c3⟩
 have dr9:ap E9 (.rp x.l) (.pointer (some ⟨E9.blk Hs.length,0,none⟩)):=by
  have h7:=(Pq.mono vb).mono vc;rw[<- (b7 Hs.length (by omega)).1]at h7;rwa [SX (by simp[bO])]at h7
 have dd9:ap E9 (.rp [iv deep]) (.pointer (some ⟨E9.blk (Hs.length+1),0,none⟩)):=by
  have h8:=Pr.mono vc;rw[<- (b7 (Hs.length+1) (by omega)).2.1]at h8;exact h8
 have IV:ap E9 (.rp [.val (.chan (some c))]) (.pointer (some ⟨E9.blk (Hs.length+3),0,none⟩)):=by
  rw[<- (b7 (Hs.length+3) (by omega)).2.2]at IM;exact IM
 have K1:jr x deep Hs E c Wg (.pointer (some ⟨E9.blk Hs.length,0,none⟩)) (.pointer (some ⟨E9.blk (Hs.length+1),0,none⟩)) (.pointer (some ⟨E9.blk (Hs.length+3),0,none⟩)) [(6,.val (pW Wg 0)),(5,.op (Hs.length+3) 0),(4,.op (Hs.length+2) 0),(3,.op (Hs.length+1) 0),(2,.op Hs.length 0)] [] E9 Ic a5:=
  ⟨⟨agt,ac9,Cj.size⟩,Mt,vc.main.trans (vb.main.trans (wE.main.trans MB)),agD,IJ,rfl,rfl,rfl,dr9,dd9,IV,λb y hb=>by rw[xx];exact Qx b y hb,aH⟩
 refine ama hx hA hp (by omega) K6 ⟨K1,rfl,by rw[xx];exact JA,by rw[xx];exact JB⟩ λjs D E11 V11 a11 G Lc jG cg Rd amP agC agz apA aja=> ?_;subst bQ;have bS:=Kn.len cg (H.length+5);let L5:List aa:=[.part 6 x.l 76,.part 1 [iv deep] 3,.cells (D.l (H.length+5)) 88,.part 1 [.val (.chan (some c))] 139,.gone];rw[hlen]at Rd;refine⟨agC,apy (P:=SA) (rs:=[.cell 4 88]) (H:=H) (L:=L5++[setH D.aK]) (G:=G) (T:=[(4,.op (H.length+2) 0)]) (av:=.agg (D.l (H.length+5))) rfl Rd amP hc (apA.trans ji.symm) (agz.trans uE.symm) aja ?_ rfl ?_ ?_ (hk js D L5 Lc jG cg rfl)⟩
 ·have hg:(H.map strip++(L5++[setH D.aK]++G))[H.length+2]?=some (.cells (D.l (H.length+5)) 88):=by
   have:=aX (H.map strip) (L5++[setH D.aK]++G) 2;rw[hlen]at this;exact this
  have aF:Ui 28 (D.l (H.length+5))=D.l (H.length+5):=SX (by omega);generalize hLG:H.map strip++(L5++[setH D.aK]++G)=LG at hg;try simp only[seval,gY,vo,hg,bS,aF,aa.cellsOf]
 ·have hl:H.length=(H.map strip).length:=hlen.symm;intro y hy;have akz:(H.map strip++(L5++[setH D.aK])).length=H.length+6:=by simp[L5]
  rw[akz];rcases SR.1 hy with h|h
  ·exact(K6 y h).mono (by omega)
  ·simp only[L5,SK,SR,S0,or_false]at h;rcases h with(rfl|rfl|rfl|rfl|rfl)|rfl
   ·exactλa ha=>GD x _ a ha
   ·intro a ha;simp at ha;subst ha;exact .val _
   ·exact yi (by omega)
   ·intro a ha;simp at ha;subst ha;exact .val _
   ·trivial
   ·trivial
 ·refine .agg λa ha=> ?_;exact yi (by simp[L5]) a ha
namespace Tk
theorem RL{x:aj}{bi:Nat}(h0:0<=x.first)(h90:x.first<=90)(hp:0<=x.am/\x.am<=3):∀(d:Nat)(pre:List Int),pre.length+d<=4->pre.head?=some x.first->(∀a∈pre,x.first<=a/\a<=x.first+3* (pre.length-1:Nat))->∀h∈mN x bi d pre,h.length=4/\h.head?=some x.first/\∀a∈h,x.first<=a/\a<=x.first+9
 |0,pre,hl,hh,ha,h,hm=>by
  unfold mN at hm;split at hm
  ·rw[S8]at hm;subst hm;have aH:pre≠[]:=λe=>(by rw[e]at hh;cases hh);have cU:0<pre.length:=Vv.2 aH;have uN:pre.getLastD 0∈pre:=by
    rw[Vl,XL aH];exact Zo aH
   refine⟨by simp[cL];omega,by rw[cL,WN,hh];rfl,λa hm=> ?_⟩;have KV:a∈pre:=by
    rcases SR.1 hm with h|h
    ·exact h
    ·rw[(Xw.1 h).2];exact uN
   have:=ha a KV;omega
  ·cases hm
 |d+1,pre,hl,hh,ha,h,hm=>by
  unfold mN at hm;split at hm
  ·obtain⟨n,hn,hm⟩:=S5.1 hm;have iU:n<x.am.toNat+1:=(by simpa using hn);split at hm
   ·cases hm
   ·have aH:pre≠[]:=λe=>(by rw[e]at hh;cases hh);have cU:0<pre.length:=Vv.2 aH;have uN:pre.getLastD 0∈pre:=by
     rw[Vl,XL aH];exact Zo aH
    refine RL h0 h90 hp d _ (by simp;omega) (by rw[WN,hh];rfl) (λa KV=> ?_) h hm;rw[SN,T8];rcases SR.1 KV with h'|h'
    ·have:=ha a h';omega
    ·rw[S8]at h';subst h';have:=ha _ uN;omega
  ·cases hm
theorem RG{x:aj}{bi:Nat}(hx:x.Ok){h:List Int}(hm:h∈kv x bi):mD h:=by
 have hf:=hx.first;have hh:=hx.hours;have hp:=hx.am;obtain⟨h1,h2,h3⟩:=RL (bi:=bi) hf.1 hf.2 ⟨by omega,hp.2⟩ x.hours.toNat [x.first] (by simp;omega) rfl (λa ha=>by rw[S8]at ha;subst ha;simp) h hm;refine⟨h1,λa ha=>by have:=h3 a ha;omega,λa ha=>by have:=h3 a ha;omega,?_⟩
 match h,h1,h2,h3 with
 |[a,b,c,d],_,h2,h3=>
  have ha:a=x.first:=by simpa using h2
  have:=h3 d (by simp);simp;omega
theorem abl:∀{qs:List Nat}{u:Nat}{t ns:List Nat},ns∈kP qs u t->∃l,ns=t++l/\l.length=qs.length/\∀(i n q:Nat),l[i]?=some n->qs[i]?=some q->n<9/\q.testBit n=true
 |[],u,t,ns,h=>by
  simp only[kP,S8]at h;exact⟨[],by simp[h],rfl,λi n q h1=>by cases h1⟩
 |q::qs,u,t,ns,h=>by
  simp only[kP,S5]at h;obtain⟨n,hn,h⟩:=h;split at h
  ·cases h
  ·rename_i hc;obtain⟨l,h1,h2,h3⟩:=abl h;refine⟨n::l,by rw[h1];simp,by simp[h2],λi m q' h4 h5=> ?_⟩
   match i with
   |0=>
    cases h4;cases h5;refine⟨by simpa using hn,?_⟩;simp at hc;exact hc.2
   |i+1=>exact h3 i m q' h4 h5
theorem abz{k:Nat}{ns:List Nat}:∀{qs:List Nat}{u:Nat}{t os:List Nat},os∈mw k ns qs u t->∃l,os=t++l/\l.length=qs.length/\∀n∈l,n<k
 |[],u,t,os,h=>by
  simp only[mw,S8]at h;exact⟨[],by simp[h],rfl,λn h1=>by cases h1⟩
 |q::qs,u,t,os,h=>by
  simp only[mw,S5]at h;obtain⟨n,hn,h⟩:=h;split at h
  ·cases h
  ·obtain⟨l,h1,h2,h3⟩:=abz h;refine⟨n::l,by rw[h1];simp,by simp[h2],λm hm=> ?_⟩;rcases SK.1 hm with rfl|hm
   ·simpa using hn
   ·exact h3 m hm
theorem NK:∀{h:List Int}{i:Nat}{n a:Int},h.head?=some a->a<=n->n<h.getLastD 0->0<=fz i h n
 |[],i,n,a,h1,_,_=>by cases h1
 |[b],i,n,a,h1,h2,h3=>by
  simp at h1 h3;omega
 |b::c::l,i,n,a,h1,h2,h3=>by
  have:b=a:=by simpa using h1
  subst this;unfold fz;split
  ·omega
  ·rename_i hc;exact NK (a:=c) rfl (by omega) (by simpa[Vl]using h3)
theorem arL{x:aj}{h:List Int}{ns os:List Nat}(hx:x.Ok)(hh:mD h)(hn:ns∈fY x h)(ho:os∈iu x h ns):ju x (dA h ns os):=by
 obtain⟨l,e1,e2,e3⟩:=abl hn;simp only[UJ]at e1;subst e1;obtain⟨m,g1,g2,g3⟩:=abz ho;simp only[UJ]at g1;subst g1;rw[Tn]at e2 g2;have h4:=hh.len;have FY:=hx.eD;have py:=hx.dc;have CZ:(dA h ns os).take 4=h:=by
  unfold dA;rw[SC,Tw (by omega),SX (by omega)]
 have dG:(lz 4 ns).length=4:=AH (by omega);have hg:∀p,p<ns.length->(dA h ns os)[4+p]?=(ns[p]?).map λn:Nat=>(n:Int):=λp hp=>by
  unfold dA;rw[SC,S9 (by omega),SW (by omega),h4,TR];unfold lz;rw[SW (by simpa using hp),To]
 refine⟨by simp[dA,h4,dG,AH (k:=3) (l:=os) (by omega)],by rw[CZ];exact hh,λp hp=> ?_,λs hs=> ?_⟩
 ·obtain⟨n,CK⟩:=b9 (xs:=ns) (i:=p) (by omega);obtain⟨y,hy⟩:=b9 hp;obtain⟨q1,q2⟩:=e3 p n (bZ h y) CK (by rw[To,hy];rfl);refine⟨n,by rw[hg p (by omega),CK];rfl,q1,?_⟩;rw[CZ];unfold bZ at q2;rw[BK]at q2;simp only[Ti,lH,decide_eq_true_eq]at q2;obtain⟨a,b,c,d,rfl,_⟩:=hh.out;have e0:(dA [a,b,c,d] ns os).getD 0 0=a:=rfl;rw[e0];have:=q2.2.1.1;simp at this;exact NK (a:=a) rfl (by omega) (by simp;omega)
 ·obtain⟨o,K9⟩:=b9 (xs:=os) (i:=s) (by omega);refine⟨o,?_,by have:=g3 o (Tc K9);omega⟩;unfold dA;rw[S9 (by simp[h4,dG]),show (h++lz 4 ns).length=8 by simp[h4,dG],TR];unfold lz;rw[SW (by have:=eR K9;simpa using this),To,K9];rfl
end Tk
theorem D3{x:aj}(hx:x.Ok):xa x:=λbi _ h hm=>by
 have hh:=RG hx hm;refine⟨hh,λns ik a ha=> ?_⟩;obtain⟨os,h1,rfl⟩:=Tl.1 ha;exact arL hx hh ik h1
open Go.Conc
section
variable {lv:Bool}{P:SI}{s:AS}{ms:List Nat}{bs:List UY}{nt:Nat}
theorem aiX{f:TO}{fn:YB}{c0 c1 c2:T4}{rs:List UO}{H:List aa}{args:List AV}{k kp:AV->List aa->Prop}(hf:P.funcs[f]?=some fn)(hb:fn.body=some (.seq c0 (.seq c1 c2)))(hr:fn.results=rs.toArray)(hn:fn.ntmps=nt)(cN:args.length<=nt)
  (h:bI H->(∀a∈args,Lt H.length a)->aP lv P none nt c0 ⟨bk 0 args,H⟩ λe s0=>e=.normal/\A8 lv P nt c1 s0 [] (λe s' nj=>e=.normal/\∃c,nj=[c]/\∀bs,kA lv P nt bs c2 s' [] (yV lv P rs H.length c k kp))):bh lv P f H args k kp:=by
 intro E V vs hc hd;have hlt:∀a∈args,Lt H.length a:=λa ha=>by
  obtain⟨i,hi⟩:=pF ha;rw[<- hc.n];exact(hd.2 i a hi).lt
 have ah:=BJ (nt:=nt) hc hd cN;refine af4 (by simp) hf hb ?_;rw[hn];refine wp_seq (h hc.au hlt E V _ _ ah λae e E0 V0 a0 s0 uL s8 he0 hΦ0=> ?_);obtain⟨rfl,yd⟩:=hΦ0;cases e<;>first
  |exact he0.elim
  |skip
 have aj9:a0.defers=[]:=uL.defers;refine wp_seq (yd E0 V0 a0 _ s8 (by rw[aj9];trivial) λae e E1 V1 a1 s1 ds1 akw v6 du Cv hΦ1=> ?_);obtain⟨rfl,c,rfl,hw⟩:=hΦ1;have iD:=uL.d.trans akw;cases e<;>first
  |exact Cv.elim
  |skip
 obtain⟨d,jg,bp⟩:∃d,a1.defers=[d]/\yP E1 c d:=by
  match jg:a1.defers,du with
  |[d],du=>exact⟨d,rfl,du.1⟩
  |[],du=>exact du.elim
  |_::_::_,du=>exact du.2.elim
 refine hw [d] E1 V1 a1 _ v6 ⟨by simp[jg],by simp⟩ λae e E' V' a' s' cD hk aS fV he hΦ=> ?_;have hle:E.Le E':=iD.le.trans hk.le;have fin:∀(md:U_)(m:Option AV)(H':List aa),(md matches .run)=false->iN cD s'.H=some H'->Od E' m md->qO lv P c H' m (λH'=>ao (gY P ⟨s'.T,H'⟩ rs) λl=>cF H.length H' (iY l) k) (λH'=>∀pv,m=some pv->cF H.length H' pv kp)->uj lv P fn (gQ E V k kp) a'.defers md a'.tmps V':=by
  intro md m H' qt hg R4 hD;refine ado qt cD _ H' E' V' _ hg aS.br fV λV2 r1 r2 ce=> ?_;have aj6:=bp.mono hk.le;refine⟨qt,.inr ⟨?_,?_⟩⟩
  ·obtain⟨f,first,cT,fa,ca,vs,h1,rfl,h3,h4,h5⟩:=bp;exact⟨_,_,rfl⟩
  ·refine(hD E' V2 d md ce aj6 R4).mono (λnx aR hx=> ?_) λ_ _ h=>h;obtain⟨g,args,rfl,Cb⟩:=hx;refine⟨g,args,rfl,Cb.mono λnQ V3 hx=> ?_⟩;obtain⟨E3,H3,q1,q2,q3,q4,q5|q5⟩:=hx
   ·obtain⟨rfl,q5⟩:=q5;exact abX (s':=⟨s'.T,H3⟩) (a':=a') hr ⟨q4,aS.tok.mono q1,aS.size⟩ (hle.trans q1) hc.n (q2.trans (r1.trans (hk.role.trans iD.role))) (q3.trans (r2.trans (hk.deaf.trans iD.deaf))) q5
   ·obtain⟨rfl,uP,q5⟩:=q5;cases m with
    |none=>cases uP
    |some pv=>
     obtain⟨v,rfl,mi⟩:=R4;obtain⟨b,bP,ud,t1,t2,t3,t4⟩:=xo (q5 pv rfl) q4 (mi.mono q1) (hle.trans q1) hc.n;exact⟨b,v,bP,ud,rfl,t1,q2.trans (r1.trans (hk.role.trans iD.role)),q3.trans (r2.trans (hk.deaf.trans iD.deaf)),t2,t3,t4⟩
 have aiO:yV lv P rs H.length c k kp .ret s' cD->uj lv P fn (gQ E V k kp) a'.defers .returning a'.tmps V':=λhΦ=>by
  obtain⟨H',hg,hΦ⟩:=ao.out hΦ;refine fin .returning none H' rfl hg rfl λE2 V2 d2 MD c1 c2 c3=> ?_;refine(hΦ E2 V2 d2 MD c1 c2 c3).mono (λnx aR hx=> ?_) λ_ _ h=>h;obtain⟨g,args,rfl,Cb⟩:=hx;refine⟨g,args,rfl,Cb.mono λnQ V3 hx=> ?_⟩;obtain⟨E3,H3,q1,q2,q3,q4,q5|q5⟩:=hx
  ·exact⟨E3,H3,q1,q2,q3,q4,.inl q5⟩
  ·exact q5.2.2.elim
 cases ae<;>cases e<;>first
  |exact he.elim
  |exact aiO hΦ
  |exact hΦ.elim
  |skip
 rename_i pv ch;obtain⟨v,eI,aj7⟩:∃v,ch=[{v,recovered:=false}]/\ap E' pv v:=he;subst eI;obtain⟨H',hg,hΦ⟩:=ao.out hΦ;refine fin _ (some pv) H' rfl hg ⟨v,rfl,aj7⟩ λE2 V2 d2 MD c1 c2 c3=> ?_;refine(hΦ E2 V2 d2 MD c1 c2 c3).mono (λnx aR hx=> ?_) λ_ _ h=>h;obtain⟨g,args,rfl,Cb⟩:=hx;refine⟨g,args,rfl,Cb.mono λnQ V3 hx=> ?_⟩;obtain⟨E3,H3,q1,q2,q3,q4,q5|q5⟩:=hx
 ·exact⟨E3,H3,q1,q2,q3,q4,.inl q5⟩
 ·exact⟨E3,H3,q1,q2,q3,q4,.inr ⟨q5.1,q5.2.1,λpv' e=>by cases e;exact q5.2.2⟩⟩
end
open Go.Proofs Go.Gg.Tk
namespace Tk
def rf (x:aj):Bool:=(SZ (x.am.toNat+1)).any λbi=>(kv x bi).any λh=> !(iI x 0 h).isEmpty
end Tk
def vk:AV:=.c9 136 (.agg [])
section
variable {lv:Bool}{H:List aa}{kr kp:List aa->Prop}
theorem aiA{r:Nat}(h:∀L,kr (H++L)):qO lv SA (.fn (.func 95) [] [.op r 0],[]) H none kr kp:=by
 refine Po (nt:=9) (by kernel_rfl) F.f95 rfl rfl rfl rfl rfl rfl rfl rfl (by kernel_rfl) (by simp) ?_;simp only[bk,SV,UJ,Vq];(try simp only[seval,F.L6]);refine d_ (a:=[]) rfl ⟨rfl,by decide,by simp,?_⟩;refine ak ?_;refine aD ?_;refine afp ?_;exact .inl (h _)
theorem aiB{r:Nat}{a:AV}(hr:H[r]?=some (.cells [a] 4))(h:∀L,kr (H.set r (.cells [bv true] 4)++L)):qO lv SA (.fn (.func 95) [] [.op r 0],[]) H (some vk) kr kp:=by
 refine Po (nt:=9) (by kernel_rfl) F.f95 rfl rfl rfl rfl rfl rfl rfl rfl (by kernel_rfl) (by simp) ?_;simp only[bk,SV,UJ,S7,vk];(try simp only[seval,F.L6]);have tE:=eR hr;have x7:∀L:List aa,(H++L)[r]?=some (.cells [a] 4):=λL=>fO hr;refine ak ?_;refine aD ?_;refine ai ?_;simp only[seval,x7,vt tE];exact .inl (h _)
end
def re (x:aj)(m:Lp)(h:List Int):dC Lp:=if(iI x 0 h).isEmpty then .go .ready else .bad .busy
theorem O_{x:aj}:∀(l:List (List Int)),bD (re x) l .ready=if l.any (λh=> !(iI x 0 h).isEmpty)=true then .bad .busy else .go .ready
 |[]=>by simp[bD]
 |h::l=>by
  have ih:=O_ (x:=x) l;by_cases he:(iI x 0 h).isEmpty=true
  ·have e1:re x .ready h=.go .ready:=(by unfold re;rw[if_pos he]);rw[bD,e1];dsimp only;rw[ih];simp only[YP,he,ai',Zu]
  ·have e1:re x .ready h=.bad .busy:=(by unfold re;rw[if_neg he]);rw[bD,e1];dsimp only;have e2:(iI x 0 h).isEmpty=false:=(by simpa using he);simp only[YP,e2,YC,ae',if_true]
theorem afE(l:List (List Int)):bD (λ(_:Lp) (_:List Int)=>(.bad .busy:dC Lp)) l .ready=if l.isEmpty then .go .ready else .bad .busy:=by
 cases l<;>rfl
def BP (x:aj)(i:Nat):List aa:=[.cells x.l 76,.cells [iv i] 3,.obj (.deferred (some [])),.gone]
def kD (x:aj)(H:List aa):Nat->List aa
 |0=>H++[.cells x.l 76,.cells [bv false] 4]
 |i+1=>kD x H i++BP x i
def xi (H:List aa):Nat->List Nat
 |0=>[]
 |i+1=>(H.length+2+4* i+2)::xi H i
theorem ID(x:aj)(H:List aa):∀i,(kD x H i).length=H.length+2+4* i
 |0=>by simp[kD]
 |i+1=>by simp[kD,BP,ID x H i];omega
theorem O9(x:aj)(H:List aa):∀i,∃Y,kD x H i=H++[.cells x.l 76,.cells [bv false] 4]++Y
 |0=>⟨[],by simp[kD]⟩
 |i+1=>by
  obtain⟨Y,h⟩:=O9 x H i;exact⟨Y++BP x i,by rw[kD,h,SC]⟩
theorem IC(x:aj)(H:List aa):∀(i:Nat)(L:List aa),∃Y,iN (xi H i) (kD x H i++L)=some (H++[.cells x.l 76,.cells [bv false] 4]++Y)
 |0,L=>⟨L,by rw[xi,zA,kD]⟩
 |i+1,L=>by
  have hl:=ID x H i;have e:(kD x H (i+1)++L)=kD x H i++(BP x i++L):=by rw[kD,SC]
  have hg:(kD x H i++(BP x i++L))[H.length+2+4* i+2]?=some (.obj (.deferred (some []))):=by rw[<- hl,aX];rfl
  obtain⟨Y,hY⟩:=IC x H i ([.cells x.l 76,.cells [iv i] 3,.gone,.gone]++L);refine⟨Y,?_⟩;rw[xi,e,zy hg,<- hl,dU];exact hY
theorem O8(x:aj)(H:List aa)(i:Nat)(L:List aa):(kD x H i++L)[H.length]?=some (.cells x.l 76)/\(kD x H i++L)[H.length+1]?=some (.cells [bv false] 4):=by
 obtain⟨Y,h⟩:=O9 x H i;rw[h,SC,SC];exact⟨aX H _ 0,aX H _ 1⟩
section
variable {lv:Bool}
theorem ai3{P:SI}(rs:List UO)(n:Nat)(c:AV×List AV)(k kp:AV->List aa->Prop)(pv:AV)(s:AS)(ms:List Nat):yV lv P rs n c k kp (.panic pv) s ms=ao (iN ms s.H) λH'=>qO lv P c H' (some pv) (λH'=>ao (gY P ⟨s.T,H'⟩ rs) λl=>cF n H' (iY l) k) (λH'=>cF n H' pv kp):=by rw[yV]
theorem ai4{P:SI}(rs:List UO)(n:Nat)(c:AV×List AV)(k kp:AV->List aa->Prop)(s:AS)(ms:List Nat):yV lv P rs n c k kp .ret s ms=ao (iN ms s.H) λH'=>qO lv P c H' none (λH'=>ao (gY P ⟨s.T,H'⟩ rs) λl=>cF n H' (iY l) k) (λ_=>False):=by rw[yV]
theorem ain{H:List aa}{k kp:AV->List aa->Prop}{x:aj}(hx:x.Ok)(hk:k (bv (rf x)) H):bh lv SA 71 H [x.av] k kp:=by
 refine aiX (rs:=[.cell 2 4]) (nt:=24) F.f71 rfl rfl rfl (by simp) λhH hA=> ?_;simp only[bk,SV,aj.av];have JH:=D3 hx;have hp:=hx.am;obtain⟨p,eB⟩:∃p:Nat,x.am=p:=⟨x.am.toNat,by omega⟩;have bO:x.l=[iv x.first,iv x.hours,iv x.am,dS x.seen,aW x.pieces,aW x.aB]:=rfl;have aT:∀(L:List aa),(H++L)[H.length]?=L[0]?:=λL=>aX H L 0;have hw:SD.wrap (x.am+1)=((p+1:Nat):Int):=by rw[eB,bA _ (by omega)];rfl
 refine ai ?_;simp only[seval,F.Oj];refine OU (n:=1) rfl rfl rfl rfl rfl rfl (by kernel_rfl) ?_;(try simp only[seval,T_,UD,Uj,TP]);refine⟨⟨_,_,_,rfl⟩,_,rfl,λbs=> ?_⟩;refine EJ ?_;refine sL ?_;refine ai ?_;simp only[seval,aT,bO,hw];refine xf ?_;refine OV (measure λi=>p+1-i).wf (λi:Nat=>⟨[(10,iv i),(9,iv ((p+1:Nat):Int)),(2,.op (H.length+1) 0),(1,.op H.length 0)],kD x H i⟩) (λi=>xi H i) (λi=>i<=p+1/\∀j,j<i->∀h∈kv x j,(iI x 0 h).isEmpty=true) 0 (ey (by simp only[seval];simp[bu,Wk.refl]) rfl) rfl ⟨by omega,λj hj=>by omega⟩ λi au=> ?_;obtain⟨oy,fw⟩:=au;have cO:=ID x H i;have ov:=λL=>(O8 x H i L).1;have xJ:=λL=>(O8 x H i L).2;obtain⟨N,hN⟩:∃N,N=H.length+2+4* i:=⟨_,rfl⟩;rw[<- hN]at cO;have Ri:(kD x H i)[H.length]?=some (.cells x.l 76):=by have:=ov [];rwa [SO]at this
 refine sL ?_;refine ak ?_;refine sL ?_;refine aD ?_;refine⟨λh=> ?_,λh=> ?_⟩
 ·
  have qi:i<=3:=by omega
  refine aN ?_;refine EJ ?_;refine xf ?_;refine sL ?_;refine ak ?_;refine sL ?_;refine ai ?_;simp only[seval,Ri,bO];refine aI ((Jh (x:=x) (n:=i) ?_));rw[cO];(try simp only[seval]);refine xf ?_;refine Iv (by rfl) λl fn T ag bo hT xH qf=> ?_;have nC:(kD x H i++[aa.cells x.l 76,aa.cells [iv i] 3]).length=N+2:=by rw[SN,cO];rfl
  (try simp only[seval]);rw[cO];obtain⟨B,hB⟩:∃B,B=kD x H i:=⟨_,rfl⟩;rw[<- hB]at cO Ri ov xJ⊢;have bg:∀(L:List aa)(j:Nat),(B++L)[N+j]?=L[j]?:=λL j=>by rw[<- cO,aX]
  have EM:∀(L:List aa)(j:Nat)(y:aa),(B++L).set (N+j) y=B++L.set j y:=λL j y=>by rw[<- cO,dU]
  have Rp:∀(M:List aa)(lp:Lp),bI (B++([aa.cells x.l 76,.cells [iv i] 3,.obj (.deferred (some [])),.loop l .ready none fn T 24 #[16] ag bo (N+2)]++M))->bI (B++([aa.cells x.l 76,.cells [iv i] 3,.obj (.deferred (some [])),.loop l lp.st lp.pe fn T 24 #[16] ag bo (N+2)]++M)):=λM lp ii z hz=>by
   have hlen:(B++([aa.cells x.l 76,.cells [iv i] 3,.obj (.deferred (some [])),.loop l lp.st lp.pe fn T 24 #[16] ag bo (N+2)]++M)).length=(B++([aa.cells x.l 76,.cells [iv i] 3,.obj (.deferred (some [])),.loop l .ready none fn T 24 #[16] ag bo (N+2)]++M)).length:=(by simp);have hl:=ii (.loop l .ready none fn T 24 #[16] ag bo (N+2)) (by simp);rw[hlen];rcases SR.1 hz with h'|h'
   ·exact ii z (Tf _ h')
   ·rcases SR.1 h' with h'|h'
    ·simp only[SK,S0,or_false]at h';rcases h' with rfl|rfl|rfl|rfl
     ·exact ii _ (by simp)
     ·exact ii _ (by simp)
     ·exact ii _ (by simp)
     ·exact hl
    ·exact ii z (S4 _ (S4 _ h'))
  have hY:jU lv SA (.fn (.yield l) [] []) (re x) (λlp:Lp=>B++[.cells x.l 76,.cells [iv i] 3,.obj (.deferred (some [])),.loop l lp.st lp.pe fn T 24 #[16] ag bo (N+2)]) (N+4) (λlp=>lp=.ready) (λh=>mD h/\∀ns∈fY x h,∀a∈(iu x h ns).map (dA h ns),ju x a) vk:=by
   refine⟨λlp h M k kp gV ha dz=> ?_,λlp h Di gV ha he=> ?_,λlp=>by simp[cO],λm lp Di hz z eZ=> ?_,rfl,rfl,rfl⟩
   ·replace gV:lp=.ready:=gV;subst gV;obtain⟨pj,C0⟩:=ha;have h4:=pj.len;have nu:(h.map iv).length=4:=(by rw[Tn,h4]);obtain⟨Lo,lc⟩:∃Lo,Lo=aa.loop l .busy none fn T 24 #[16] ag bo (N+2):=⟨_,rfl⟩;obtain⟨P1,dt⟩:∃P1:List aa,P1=B++([.cells x.l 76,.cells [iv i] 3,.obj (.deferred (some [])),Lo]++M):=⟨_,rfl⟩;have ek:P1.length=N+4+M.length:=(by rw[dt];simp[cO];omega);have pg3:∀(L:List aa),(P1++L)[N+3]?=some Lo:=λL=>(by rw[dt,SC,bg];rfl);have px:∀(L:List aa),(P1++L)[H.length]?=some (.cells x.l 76):=λL=>(by rw[dt,SC];exact ov _);have pb:∀(L:List aa)(j:Nat),(P1++L)[N+4+M.length+j]?=L[j]?:=λL j=>(by rw[<- ek,aX]);have wJ:∀(L:List aa),(P1++L)[N+4+M.length]?=L[0]?:=λL=>pb L 0;have pK:∀(L:List aa)(y:aa),(P1++L).set (N+4+M.length+4) y=P1++L.set 4 y:=λL y=>(by rw[<- ek,dU]);have s3:∀(L:List aa) y,(P1++L).set (N+3) y=B++([.cells x.l 76,.cells [iv i] 3,.obj (.deferred (some [])),y]++M)++L:=λL y=>by
     rw[dt,SC,EM];simp
    subst hT xH qf;rw[SC];refine vR (id:=N+3) (by rw[bg];rfl) rfl (by kernel_rfl) λoi JI=> ?_;simp only[sq];have we:T7 4 [iv 0,iv 0,iv 0,iv 0]=[]:=rfl;refine ai ?_;simp only[seval,h4,we];unfold ui;refine⟨none,fn,_,24,#[16],_,_,_,by rw[bg];rfl,?_⟩;dsimp only;rw[EM];simp only[UF,TZ];rw[<- lc];have xC:B.length+(M.length+1+1+1+1)=N+4+M.length:=(by rw[cO];omega);rw[xC];have xQ:∀z:aa,(B++aa.cells x.l 76::aa.cells [AV.val (SF SD ↑i)] 3::aa.obj (aud (some []))::Lo::(M++[z]))=P1++[z]:=λz=>(by rw[dt];simp[iv]);rw[xQ];refine ai ?_;simp only[seval,px,bO,wJ,h4,nu];rw[SX (i:=4) (l:=h.map iv) (by rw[nu];exact SQ _)];refine aI ((Ji (x:=x) (h:=h) (deep:=0) ?_));(try simp only[seval]);refine cq ?_;refine EH (N+3) (by rfl) (by show (P1++_)[N+3]?=_;rw[pg3,lc]) λl2 eQ T2 gC gE oo xI xK=> ?_;simp only[seval];rw[ek];have xG:jU lv SA (.fn (.yield l2) [] []) (λ(_:Lp) (_:List Int)=>(.bad .busy:dC Lp)) (λlp:Lp=>P1++[.cells (h.map iv) 83,.cells x.l 76,.cells (h.map iv) 83,.cells [iv 0] 3,.loop l2 lp.st lp.pe eQ T2 24 #[20] gC gE (N+2)]) (N+4+M.length+5) (λlp=>lp=.ready) (λa=>a.length=11) vk:=by
     refine⟨λlp t M2 k2 yj gV ht ln=> ?_,λlp t Di gV ht he=>(by cases he),λlp=>by simp[ek],λq lp Di hz z eZ=> ?_,rfl,rfl,rfl⟩
     ·replace gV:lp=.ready:=gV;subst gV;simp only[cX]at ln;have l5:∀(L:List aa),(P1++L)[N+4+M.length+4]?=L[4]?:=λL=>pb L 4;subst oo xI xK;rw[SC];refine vR (id:=N+4+M.length+4) (by rw[l5];rfl) rfl (by kernel_rfl) λrq JJ=> ?_;simp only[sq];refine aN ?_;unfold ui;refine⟨none,eQ,_,24,#[20],_,_,_,by rw[l5];rfl,?_⟩;dsimp only;rw[pK];simp only[UF,TZ];refine ai ?_;simp only[seval,F.L6];show cF _ (P1++_) _ yj;rw[SC]at ln;exact bW ln
     ·rcases SR.1 eZ with h'|h'
      ·exact hz z (Tf _ h')
      ·have hl:=hz _ (S4 _ (Tc (i:=4) rfl));simp only[SK,S0,or_false]at h';rcases h' with rfl|rfl|rfl|rfl|rfl
       ·exact hz _ (S4 _ (by simp))
       ·exact hz _ (S4 _ (by simp))
       ·exact hz _ (S4 _ (by simp))
       ·exact hz _ (S4 _ (by simp))
       ·exact hl
    rw[ek]at oo;have FU:∀n,Lt n vk:=λn=>(by simp[vk,aaR,tO]);refine cx (Jm (x:=x) (h:=h) (deep:=0) (ir:=N+4+M.length+1) (ih:=N+4+M.length+1+1) (id:=N+4+M.length+1+2) (σ:=Lp.ready) hx pj xG (λlp L=> ?_) (λlp L=> ?_) (λlp L=> ?_) FU rfl (λa ha=>ha) (λns ik a ha=>(C0 ns ik a ha).len) ?_)
    ·rw[SC];exact pb _ 1
    ·rw[SC];exact pb _ 2
    ·rw[SC];exact pb _ 3
    rw[afE];have l5:∀(L:List aa),(P1++L)[N+4+M.length+4]?=L[4]?:=λL=>pb L 4;by_cases te:(iI x 0 h).isEmpty=true
    ·rw[if_pos te];have e1:re x .ready h=.go .ready:=(by unfold re;rw[if_pos te]);rw[e1]at dz;simp only[cX]at dz;simp only[f_,SO];refine⟨.ready,none,_,_,_,_,_,_,_,by rw[l5];rfl,by decide,?_⟩;rw[pK,G7];(try simp only[seval]);show oT _ _ _ _ _ _ _;refine⟨l,.busy,none,fn,_,24,#[16],_,_,N+2,by show (P1++_)[_]?=_;rw[pg3,lc],?_⟩;show cF (N+4+M.length) ((P1++_).set _ _) _ k;rw[s3];rw[SC]at dz;exact jy (G:=[.cells (h.map iv) 83,.cells x.l 76,.cells (h.map iv) 83,.cells [iv 0] 3,.gone]) (Wk.refl _) (by simp[iv];exact⟨rfl,rfl⟩) (by simp[cO];omega) (Rp M .ready oi) (.val _) dz
    ·rw[if_neg te];have e1:re x .ready h=.bad .busy:=(by unfold re;rw[if_neg te]);rw[e1]at dz;simp only[cX]at dz;simp only[f_,SO];show cF (N+4+M.length) (P1++_) vk kp;rw[SC]at dz;refine jy (H':=B++([aa.cells x.l 76,.cells [iv i] 3,.obj (.deferred (some [])),.loop l Lp.busy.st Lp.busy.pe fn _ 24 #[16] _ _ (N+2)]++M)) (Wk.refl _) (by rw[dt,lc];rfl) (by simp[cO];omega) (Rp M .busy oi) (FU _) dz
   ·replace gV:lp=.ready:=gV;subst gV;unfold re at he;split at he
    ·cases he;rfl
    ·cases he
   ·rcases SR.1 eZ with h'|h'
    ·exact hz z (Tf _ h')
    ·have hl:=hz _ (S4 _ (Tc (i:=3) rfl));simp only[SK,S0,or_false]at h';rcases h' with rfl|rfl|rfl|rfl
     ·exact hz _ (S4 _ (by simp))
     ·exact hz _ (S4 _ (by simp))
     ·exact hz _ (S4 _ (by simp))
     ·exact hl
  have FU:∀n,Lt n vk:=λn=>by simp[vk,aaR,tO]
  refine cx (Jk (x:=x) (bi:=i) (ir:=N) (it:=N+1) (σ:=Lp.ready) hx hY (λlp L=> ?_) (λlp L=> ?_) qi FU rfl (λa ha=>JH i qi a ha) ?_)
  ·rw[SC];exact bg _ 0
  ·rw[SC];exact bg _ 1
  rw[O_];have bM:SD.wrap ((i:Int)+1)=((i+1:Nat):Int):=by rw[bA _ (by omega)];rfl
  by_cases Fx:(kv x i).any (λh=> !(iI x 0 h).isEmpty)=true
  ·rw[if_pos Fx];have J_:rf x=true:=by
    unfold rf;rw[Up];exact⟨i,by rw[Tx];omega,Fx⟩
   rw[J_]at hk;simp only[f_,SO];(try simp only[seval,ai3]);obtain⟨Y,v4⟩:=IC x H i [.cells x.l 76,.cells [iv i] 3,.gone,.loop l .busy none fn T 24 #[16] ag bo (N+2)];rw[<- hB]at v4;have hgo:iN ((N+2)::xi H i) (B++[.cells x.l 76,.cells [iv i] 3,.obj (.deferred (some [])),.loop l Lp.busy.st Lp.busy.pe fn T 24 #[16] ag bo (N+2)])=some (H++[.cells x.l 76,.cells [bv false] 4]++Y):=by
    rw[zy (by rw[bg];rfl),EM];exact v4
   refine d_ hgo ?_;have dn:(H++[aa.cells x.l 76,.cells [bv false] 4]++Y)[H.length+1]?=some (.cells [bv false] 4):=(by rw[SC];exact aX H _ 1);refine aiB dn λL=> ?_;have ce:((H++[aa.cells x.l 76,.cells [bv false] 4]++Y).set (H.length+1) (.cells [bv true] 4)++L)[H.length+1]?=some (.cells [bv true] 4):=by
    rw[SC,dU,SC];exact aX H _ 1
   (try simp only[seval,gY,vo,ce,aa.cellsOf]);exact lG hH hk
  ·rw[if_neg Fx];simp only[f_,SO];refine⟨.ready,none,_,_,_,_,_,_,_,by show (B++_)[N+3]?=_;rw[bg];rfl,by decide,?_⟩;rw[show N+2+1=N+3 from rfl,EM,G6];(try simp only[seval]);refine EI ?_;refine ai ?_;simp only[seval,bM];refine⟨i+1,?_,⟨by omega,λj hj g hm=> ?_⟩,ey (by push_cast;simp only[seval];simp[bu,Wk.refl]) (by rw[hB];rfl),by rw[xi,hN]⟩
   ·show p+1-(i+1)<p+1-i;omega
   ·by_cases cp:j<i
    ·exact fw j cp g hm
    ·have:j=i:=(by omega);subst this;apply Tm;intro aH;exact Fx (Up.2 ⟨g,hm,by simpa using aH⟩)
 ·
  have dx:i=p+1:=by omega
  subst dx;have J_:rf x=false:=by
   unfold rf;rw[Bool.eq_false_iff];intro hc;obtain⟨j,h1,h2⟩:=Up.1 hc;obtain⟨h,h3,h4⟩:=Up.1 h2;rw[Tx]at h1;have:=fw j (by omega) h h3;rw[this]at h4;cases h4
  rw[J_]at hk;have Re:(kD x H (p+1))[H.length+1]?=some (.cells [bv false] 4):=by have:=xJ [];rwa [SO]at this
  refine bX ?_;refine sL ?_;refine ai ?_;simp only[seval,Re];rw[qH Re];refine EI ?_;refine n_ ?_;rw[ai4];obtain⟨Y,v4⟩:=IC x H (p+1) [];rw[SO]at v4;refine d_ v4 ?_;refine aiA λL=> ?_;have ce:(H++[aa.cells x.l 76,.cells [bv false] 4]++Y++L)[H.length+1]?=some (.cells [bv false] 4):=by
   rw[SC,SC];exact aX H _ 1
  (try simp only[seval,gY,vo,ce,aa.cellsOf]);exact lG hH hk
end
open Go.Conc Go.Proofs Go.Gg.Tk
section
variable {lv:Bool}{H:List aa}{k kp:AV->List aa->Prop}
theorem sT{n lo hi:Int}(hk:k (bv (decide (n<lo)||decide (n>hi))) H):bh lv SA 59 H [iv n,iv lo,iv hi] k kp:=by
 refine bF (rs:=[.tmp 6]) (nt:=15) Tryz.f59 λhH hA=> ?_;simp only[bk,SV];refine ak ?_;by_cases h:n<lo
 ·have h1:decide (n<lo)=true:=by simpa using h
  refine ai ?_;simp only[seval,h1];refine aZ ?_;rw[h1,ae']at hk;exact bW hk
 ·have h1:decide (n<lo)=false:=by simpa using h
  refine ai ?_;simp only[seval,h1];refine aZ ?_;rw[h1,Zu]at hk;exact bW hk
theorem Jb{b:iL}{hi e at':Int}(hb:sx b hi)(hk:k (.val .nilIface) H):bh lv SA 104 H [b.av,iv hi,iv e,iv at'] k kp:=by
 refine bF (rs:=[.tmp 8]) (nt:=33) Tryz.f104 λhH hA=> ?_;simp only[bk,SV,iL.av];have h1:(decide (b.min<0)||decide (b.min>hi))=false:=by have:=hb.min;have:=hb.le;have:=hb.max;simp;omega
 have h2:(decide (b.max<0)||decide (b.max>hi))=false:=by have:=hb.min;have:=hb.le;have:=hb.max;simp;omega
 have h3:decide (b.min>b.max)=false:=by have:=hb.le;simp;omega
 refine ak ?_;refine ai ?_;simp only[seval,iL.l];refine aI ((sT ?_));(try simp only[seval,h1]);refine aI ((sT ?_));(try simp only[seval,h2]);refine aD ?_;refine ai ?_;simp only[seval,h3];refine aD ?_;refine aN ?_;refine ak ?_;refine aZ ?_;exact lG hH hk
theorem aie(hk:k (bv true) H):bh lv SA 52 H [] k kp:=by
 refine bF (rs:=[.tmp 0]) (nt:=1) Tryz.f52 λhH hA=> ?_;simp only[bk,SV];refine ak ?_;refine ak ?_;refine aZ ?_;exact bW hk
theorem ahH{t:AV}(hk:k (bv false) H):bh lv SA 105 H [.val .nilIface,t] k kp:=by
 refine bF (rs:=[.tmp 4]) (nt:=42) Tryz.f105 λhH hA=> ?_;simp only[bk,SV];refine ak ?_;refine ai ?_;simp only[seval,F.C8];refine aD ?_;refine ak ?_;refine aZ ?_;exact bW hk
theorem aiv(hk:k (iv 0) H):bh lv SA 84 H [.val .nilIface] k kp:=by
 refine bF (rs:=[.tmp 2]) (nt:=9) Tryz.f84 λhH hA=> ?_;simp only[bk,SV];refine ak ?_;refine ak ?_;refine ai ?_;simp only[seval,F.alL];refine aI ((ahH ?_));(try simp only[seval]);refine aD ?_;refine aN ?_;refine ak ?_;refine aZ ?_;exact lG hH hk
theorem aiu{x:aj}{y:Seen}{at':Int}(hh:0<=y.hour/\y.hour<=x.hours)(hb:sx y.next 99)(hk:k (.val .nilIface) H):bh lv SA 83 H [x.av,y.av,iv at'] k kp:=by
 refine bF (rs:=[.tmp 6]) (nt:=19) Tryz.f83 λhH hA=> ?_;simp only[bk,SV,aj.av,Seen.av];have bO:x.l=[iv x.first,iv x.hours,iv x.am,dS x.seen,aW x.pieces,aW x.aB]:=rfl;have h1:(decide (y.hour<0)||decide (y.hour>x.hours))=false:=by simp;omega
 refine ai ?_;simp only[seval,bO,Seen.l];refine ak ?_;refine aI ((sT ?_));(try simp only[seval,h1]);refine aD ?_;refine aN ?_;refine ak ?_;refine aI ((Jb (b:=y.next) hb ?_));(try simp only[seval]);refine aZ ?_;exact lG hH hk
theorem P9{x:aj}{l:List aC}(hx:x.Ok)(hl:∀y∈l,H6 x y)(qn:l.length<=4)(hk:k (.val .nilIface) H):bh lv SA 85 H [x.av,aW l] k kp:=by
 refine bF (rs:=[.tmp 4]) (nt:=34) Tryz.f85 λhH hA=> ?_;simp only[bk,SV,aj.av];have bO:x.l=[iv x.first,iv x.hours,iv x.am,dS x.seen,aW x.pieces,aW x.aB]:=rfl;have aT:∀(L:List aa),(H++L)[H.length]?=L[0]?:=λL=>aX H L 0;have KD:=hx.hours;have yd:SD.wrap (x.hours-1)=x.hours-1:=bA _ (by omega);refine ai ?_;simp only[seval,bO];refine ai ?_;simp only[seval,aW];refine cq ?_;refine sJ l.length (λi:Nat=>[(11,iv i)]) (λ_=>_) (λi=>True) trivial (λbQ cP i cK _ R hR=> ?_);refine ak ?_;refine aD ?_;refine⟨λh=> ?_,λh=> ?_⟩
 ·have bB:i<l.length:=by omega
  obtain⟨y,hy⟩:=b9 bB;have C5:=hl y (Tc hy);have bM:SD.wrap ((i:Int)+1)=((i+1:Nat):Int):=by rw[bA _ (by omega)];rfl
  refine aN ?_;refine ai ?_;simp only[seval,DO hy,jc bB];refine ak ?_;refine aI ((Jb (b:=y.number) C5.number ?_));(try simp only[seval]);refine ai ?_;simp only[seval,F.C8];refine aD ?_;refine aN ?_;refine ai ?_;simp only[seval,aT,yd];refine aI ((Jb (b:=y.hour) C5.hour ?_));(try simp only[seval]);refine ai ?_;simp only[seval,F.C8];refine aD ?_;refine aN ?_;refine ai ?_;simp only[seval,bM];exact hR _ ⟨bB,trivial,AL (pE rfl rfl) (by simp only[seval];simp[bu,Wk.refl]) bQ (by simp[eK])⟩
 ·refine bX ?_;refine ak ?_;refine aZ ?_;exact lG hH hk
theorem Jg{x:aj}(hx:x.Ok)(hk:k (iv 0) H):bh lv SA 62 H [x.av] k kp:=by
 refine bF (rs:=[.tmp 2]) (nt:=62) Tryz.f62 λhH hA=> ?_;simp only[bk,SV,aj.av];have bO:x.l=[iv x.first,iv x.hours,iv x.am,dS x.seen,aW x.pieces,aW x.aB]:=rfl;have aT:∀(L:List aa),(H++L)[H.length]?=L[0]?:=λL=>aX H L 0;have h1:(decide (x.first<0)||decide (x.first>90))=false:=by have:=hx.first;simp;omega
 have h2:(decide (x.hours<1)||decide (x.hours>3))=false:=by have:=hx.hours;simp;omega
 have h3:(decide (x.am<1)||decide (x.am>3))=false:=by have:=hx.am;simp;omega
 have g3:decide ((3:Int)<x.seen.length)=false:=by have:=hx.yC;simp;omega
 have g4:decide ((4:Int)<x.pieces.length)=false:=by have:=hx.eD;simp;omega
 have g5:decide ((3:Int)<x.aB.length)=false:=by have:=hx.dc;simp;omega
 refine ai ?_;simp only[seval,bO];refine ai ?_;simp only[seval,aT];refine aI ((sT ?_));(try simp only[seval,h1,aT]);refine aI ((sT ?_));(try simp only[seval,h2,aT]);refine aI ((sT ?_));(try simp only[seval,h3]);refine aD ?_;refine aN ?_;refine ai ?_;simp only[seval,aT,dS,g3];refine aD ?_;refine aN ?_;refine ai ?_;simp only[seval,aT,dS];refine cq ?_;refine sJ x.seen.length (λi:Nat=>[(27,iv i)]) (λ_=>_) (λi=>True) trivial (λbQ cP i cK _ R hR=> ?_);refine ak ?_;refine aD ?_;refine⟨λh=> ?_,λh=> ?_⟩
 ·have bB:i<x.seen.length:=by omega
  obtain⟨y,hy⟩:=b9 bB;have C5:=hx.seen y (Tc hy);have bM:SD.wrap ((i:Int)+1)=((i+1:Nat):Int):=by have:=hx.yC;rw[bA _ (by omega)];rfl
  refine aN ?_;refine ai ?_;simp only[seval,acw hy,jc bB];refine ai ?_;simp only[seval,aT];refine aI ((aiu (x:=x) (y:=y) C5.1 C5.2 ?_));(try simp only[seval]);refine ai ?_;simp only[seval,F.C8];refine aD ?_;refine aN ?_;refine ai ?_;simp only[seval,bM];exact hR _ ⟨bB,trivial,AL (pE rfl rfl) (by simp only[seval];simp[bu,Wk.refl]) bQ (by simp[eK])⟩
 ·refine bX ?_;refine ai ?_;simp only[seval,aT,aW,g4];refine aD ?_;refine aN ?_;refine ai ?_;simp only[seval,aT];refine aI ((P9 (x:=x) (l:=x.pieces) hx hx.piece hx.eD ?_));(try simp only[seval]);refine ai ?_;simp only[seval,F.C8];refine aD ?_;refine aN ?_;refine ai ?_;simp only[seval,aT,g5];refine aD ?_;refine aN ?_;refine ai ?_;simp only[seval,aT];refine aI ((P9 (x:=x) (l:=x.aB) hx hx.stub (by have:=hx.dc;omega) ?_));(try simp only[seval]);refine aI ((aiv ?_));(try simp only[seval]);refine aZ ?_;exact lG hH hk
end
def N_ (lv:Bool)(H:List aa)(f:AV)(b:Bool):Prop:=∀(L:List aa)(k kp:AV->List aa->Prop),k (bv b) (H++L)->i_ lv SA f (H++L) [] k kp
def qL:List AV:=[iv 0,iv 0,iv 0,.sl 0 [] .exact,.sl 0 [] .exact,.sl 0 [] .exact]
def fe (D:Kn):Int:=if D.has then 0 else 11
theorem zt{x:aj}{deep:Int}{p:Nat}{H:List aa}{k kp:AV->List aa->Prop}{f:AV}{b:Bool}(hx:x.Ok)(hp:x.am=p)(hm:H[0]?=some .main)(hf:N_ true H f b)(iD:b=false->k (.aL [.agg qL,.agg jp,iv 3]) H)(cG:b=true->∀js D L mp,js.Perm (SZ (p+1))->nY x deep js D->bJ D->H.length<=mp->(H++L)[mp]?=some (setH D.aK)->k (.aL [x.av,.agg (D.l mp),iv (fe D)]) (H++L)):bh true SA 51 H [x.av,iv deep,f] k kp:=by
 refine bF (rs:=[.cell 6 76,.cell 7 88,.tmp 8]) (nt:=36) Tryz.f51 λhH hA=> ?_;simp only[bk,SV,aj.av];have bO:x.l=[iv x.first,iv x.hours,iv x.am,dS x.seen,aW x.pieces,aW x.aB]:=rfl;have aT:∀(L:List aa),(H++L)[H.length]?=L[0]?:=λL=>aX H L 0;have du:∀(L:List aa),(H++L)[H.length+1]?=L[1]?:=λL=>aX H L 1;have lf:∀(L:List aa),(H++L)[H.length+2]?=L[2]?:=λL=>aX H L 2;refine ak ?_;refine ai ?_;simp only[seval,aT,bO];refine aI ((Jg (x:=x) hx ?_));(try simp only[seval]);refine ak ?_;refine aD ?_;refine aN ?_;refine ak ?_;refine xh (hf _ _ _ ?_);(try simp only[seval]);refine aD ?_;refine⟨λhb=> ?_,λhb=> ?_⟩
 ·have dD:b=false:=by simpa using hb
  have:=iD dD;refine ak ?_;refine n_ ?_;simp only[seval,du,lf];exact iM hH (Wk.refl _) (by simp[jL,tO,eK,qL,jp,Mx]) this
 ·have dD:b=true:=by simpa using hb
  refine aN ?_;refine ai ?_;simp only[seval,aT];refine⟨⟨rfl,rfl,rfl⟩,?_⟩;have zO:∀(L:List aa),(H++L)[H.length+3]?=L[3]?:=λL=>aX H L 3;refine ai ?_;simp only[seval,zO];refine aI ((aiq (x:=x) hx (D3 hx) hp (fO hm) λjs D L5 iC jG cg hl5=> ?_));have bS:=λmp=>Kn.len cg mp;have dZ:=u_ D;obtain⟨z0,z1,z2,z3,z4,rfl⟩:∃z0 z1 z2 z3 z4,L5=[z0,z1,z2,z3,z4]:=by
   match L5,hl5 with
   |[a,b,c,d,e],_=>exact⟨a,b,c,d,e,rfl⟩
  (try simp only[seval,bS]);refine⟨dZ _,?_⟩;have gn:∀(L:List aa)(j:Nat),(H++L)[H.length+j]?=L[j]?:=λL j=>aX H L j;have Ah:∀(L:List aa)(j:Nat)(y:aa),(H++L).set (H.length+j) y=H++L.set j y:=λL j y=>dU H L j y;have aj4:∀(L:List aa),(H++L)[H.length+10]?=L[10]?:=λL=>aX H L 10;obtain⟨mp,tr⟩:∃mp,mp=H.length+4+5:=⟨_,rfl⟩;rw[<- tr];refine ai ?_;simp only[seval,aj4,Kn.B7];obtain⟨jZ,eX⟩:∃jZ:List AV->List AV->List aa,∀u v,jZ u v=H++[.cells x.l 26,.cells u 76,.cells v 88,.cells x.l 76,z0,z1,z2,z3,z4,setH D.aK,.cells (D.l mp) 88]:=⟨_,λ_ _=>rfl⟩;have p1:∀u v,(jZ u v)[H.length+1]?=some (.cells u 76):=λu v=>by rw[eX,gn];rfl
  have p2:∀u v,(jZ u v)[H.length+2]?=some (.cells v 88):=λu v=>by rw[eX,gn];rfl
  have p3:∀u v,(jZ u v)[H.length+3]?=some (.cells x.l 76):=λu v=>by rw[eX,gn];rfl
  have p10:∀u v,(jZ u v)[H.length+10]?=some (.cells (D.l mp) 88):=λu v=>by rw[eX,gn];rfl
  have s1:∀u v w,(jZ u v).set (H.length+1) (.cells w 76)=jZ w v:=λu v w=>by rw[eX,Ah,eX];rfl
  have s2:∀u v w,(jZ u v).set (H.length+2) (.cells w 88)=jZ u w:=λu v w=>by rw[eX,Ah,eX];rfl
  have dY:∀(e:Int),e=fe D->k (.aL [x.av,.agg (D.l mp),iv e]) (jZ x.l (D.l mp)):=λe he=>by
   rw[he,eX];refine cG dD js D _ mp iC jG cg (by omega) ?_;rw[tr,show H.length+4+5=H.length+9 from rfl,gn];rfl
  have e0:=eX qL jp;simp only[qL,jp,bO,iv,bv,wv,TH,Vh,UJ,push_cast,Int.cast_ofNat_Int]at e0;rw[<- e0];clear e0;have bt:x.l.length=6:=rfl;have oD:jp.length=28:=rfl;have hzr:qL.length=6:=rfl;have ej:Ui 6 x.l=x.l:=rfl;have Ga:Ui 28 (D.l mp)=D.l mp:=SX (by rw[bS];exact SQ _);have wc:∀l:List AV,l.length=28->D.l mp++T7 (D.l mp).length l=D.l mp:=λl hl=>by rw[bS,TV (by omega),SO]
  have aam:∀a∈x.l,a.leaf=true:=λa ha=>by
   simp only[aj.l,SK,S0,or_false]at ha;rcases ha with rfl|rfl|rfl|rfl|rfl|rfl<;>rfl
  refine aD ?_;refine⟨λhh=> ?_,λhh=> ?_⟩
  ·have JL:D.has=false:=(by simpa using hh);have:=dY 11 (by rw[fe,JL];rfl);refine oW [2,3] [0,1,2,3,4] [⟨0,false,[],[]⟩,⟨1,false,[],[([2],[2])]⟩,⟨2,true,[2],[]⟩,⟨3,true,[2,3],[]⟩,⟨4,false,[2,3],[]⟩] (λD'=>bif isDone 3 D' then jZ x.l (D.l mp)else bif isDone 2 D' then jZ x.l jp else jZ qL jp) ?_;simp only[seval,p1,p2,p3,p10,s1,s2,bS,bt,oD,hzr,dZ];rw[ej,Ga];refine⟨rfl,SQ _,aam,rfl,bS _,by rw[bS];exact SQ _,dZ _,by rw[wc _ rfl];rfl,?_⟩;refine n_ ?_;simp only[seval,p1,p2,bS];rw[Ga];refine d_ (a:=[x.av,.agg (D.l mp),iv 11]) rfl ?_;exact bW this
  ·have JL:D.has=true:=(by simpa using hh);have:=dY 0 (by rw[fe,JL];rfl);refine aN ?_;refine oW [2,3] [0,1,2,3,4] [⟨0,false,[],[]⟩,⟨1,false,[],[([2],[2])]⟩,⟨2,true,[2],[]⟩,⟨3,true,[2,3],[]⟩,⟨4,false,[2,3],[]⟩] (λD'=>bif isDone 3 D' then jZ x.l (D.l mp)else bif isDone 2 D' then jZ x.l jp else jZ qL jp) ?_;simp only[seval,p1,p2,p3,p10,s1,s2,bS,bt,oD,hzr,dZ];rw[ej,Ga];refine⟨rfl,SQ _,aam,rfl,bS _,by rw[bS];exact SQ _,dZ _,by rw[wc _ rfl];rfl,?_⟩;refine n_ ?_;simp only[seval,p1,p2,bS];rw[Ga];refine d_ (a:=[x.av,.agg (D.l mp),iv 0]) rfl ?_;exact bW this
namespace Tk
def fH (s:Nat)(more:Int)(i:Nat):List Int:=((SZ i).filter s.testBit).map λn:Nat=>(n:Int)+more
theorem aaO(s:Nat)(more:Int)(i:Nat):fH s more (i+1)=if s.testBit i then fH s more i++[(i:Int)+more]else fH s more i:=by
 unfold fH;rw[Vo,List.filter_append,TD];by_cases h:s.testBit i=true
 ·simp[h]
 ·simp[h]
theorem Mr(s:Nat)(more:Int)(i:Nat):(fH s more i).length<=i:=by
 unfold fH;rw[Tn];exact UM (List.length_filter_le _ _) (by simp)
end Tk
theorem z1:gM (SF .i64 0) 1=[iv 0]:=rfl
section
variable {lv:Bool}{H:List aa}{k kp:AV->List aa->Prop}
theorem Jf{s:Nat}{more:Int}(hs:s<65536)(hm:0<=more/\more<=1000)(hk:k (a_ (fH s more 16)) H):bh lv SA 56 H [wv s,iv more] k kp:=by
 refine bF (rs:=[.tmp 4]) (nt:=21) Tryz.f56 λhH hA=> ?_;simp only[bk,SV];refine ak ?_;refine ak ?_
 (repeat apply iA);refine sK (t:=5) (sz:=1) (el:=3) (by simp only[seval]<;>rfl) ?_
 refine ak ?_;refine cq ?_;refine gD 16 (λi:Nat=>[(5,.sl (fH s more i).length ((fH s more i).map iv) (.opn H.length)),(7,iv i)]) (λi=>H++[.tail (fH s more i).length 1 3]) (λ_=>True) (λ_ _=>rfl) (by simp only[seval];simp[bu,Wk.refl];exact Wk.refl _) rfl (λ_ _ _=>by simp) trivial (λbQ cP i cK hi R hR=> ?_);refine ak ?_;refine aD ?_;refine⟨λh=> ?_,λh=> ?_⟩
 ·have hl:i<16:=by omega
  have fQ:SD.wrap ((i:Int)+1)=((i+1:Nat):Int):=by rw[bA _ (by omega)];rfl
  have uH:SD.wrap ((i:Int)+more)=(i:Int)+more:=bA _ (by omega);have fF:=Mr s more i;refine aN ?_;refine ak ?_;refine ak ?_;refine aI ((xu hs ?_));(try simp only[seval]);refine aD ?_;refine⟨λhb=> ?_,λhb=> ?_⟩
  ·refine ai ?_;simp only[seval,z1,uH]
   first|refine⟨by decide,by omega,?_⟩|refine⟨by omega,?_⟩
   refine ai ?_;simp only[seval,fQ];have cQ:fH s more (i+1)=fH s more i++[(i:Int)+more]:=(by rw[aaO,if_pos hb]);refine hR _ ⟨hl,trivial,?_⟩;rw[cQ,TD,SN];exact da
  ·refine aN ?_;refine ai ?_;simp only[seval,fQ];have cQ:fH s more (i+1)=fH s more i:=(by rw[aaO,if_neg (by simpa using hb)]);refine hR _ ⟨hl,trivial,?_⟩;rw[cQ];exact da
 ·refine bX ?_;have:i=16:=by omega
  subst this;refine ak ?_;refine aZ ?_;rw[a_]at hk;exact iM hH (g_ _ _ _) (by simp[vg,eK]) hk
theorem ait{x:aj}{n:Int}{ir:Nat}(hx:x.Ok)(hr:H[ir]?=some (.cells x.l 26))(hk:k (bv (decide (n<0)||decide (n>(x.pieces.length:Int)-1))) H):bh lv SA 82 H [iv n,.op ir 0] k kp:=by
 refine bF (rs:=[.tmp 3]) (nt:=10) Tryz.f82 λhH hA=> ?_;simp only[bk,SV];have bO:x.l=[iv x.first,iv x.hours,iv x.am,dS x.seen,aW x.pieces,aW x.aB]:=rfl;have nH:=hx.eD;have hw:SD.wrap ((x.pieces.length:Int)-1)=(x.pieces.length:Int)-1:=bA _ (by omega);refine ak ?_;refine ai ?_;simp only[seval,hr,bO,aW,hw];refine aI ((sT ?_));(try simp only[seval]);refine aZ ?_;exact bW hk
theorem ahG{ns:List Int}{f:AV}{e:End}(ik:ns.length<=4)(g:Int->Bool)(hf:∀n∈ns,∀(k kp:AV->List aa->Prop),k (bv (g n)) H->i_ lv SA f H [iv n] k kp)(hk:k (iv (match ns.findIdx? g with|some i=>(i:Int)|none=> -1)) H):bh lv SA 103 H [.sl ns.length (ns.map iv) e,f] k kp:=by
 refine bF (rs:=[.tmp 4]) (nt:=19) Tryz.f103 λhH hA=> ?_;simp only[bk,SV];refine ak ?_;refine ak ?_;refine cq ?_;refine sJ ns.length (λi:Nat=>[(8,iv i)]) (λ_=>_) (λi=>∀n∈ns.take i,g n=false) (by simp) (λbQ cP i cK hi R hR=> ?_);refine ak ?_;refine aD ?_;refine⟨λh=> ?_,λh=> ?_⟩
 ·have bB:i<ns.length:=by omega
  obtain⟨n,hn⟩:=b9 bB;have fQ:SD.wrap ((i:Int)+1)=((i+1:Nat):Int):=by rw[bA _ (by omega)];rfl
  refine aN ?_;refine ak ?_;refine ai ?_;simp only[seval,e9 hn,jc bB];refine xh (hf n (Tc hn) _ _ ?_);(try simp only[seval]);refine aD ?_;refine⟨λhg=> ?_,λhg=> ?_⟩
  ·refine ak ?_;refine aZ ?_;have:ns.findIdx? g=some i:=by
    rw[Xs];refine⟨bB,?_,λj hj=> ?_⟩
    ·rw[SY bB]at hn;cases hn;exact hg
    ·have:=hi ns[j] (by rw[List.mem_take_iff_getElem];exact⟨j,by omega,rfl⟩);simp[this]
   rw[this]at hk;exact bW hk
  ·refine aN ?_;refine ai ?_;simp only[seval,fQ];refine hR _ ⟨bB,λm hm=> ?_,da⟩;rw[VL,hn]at hm;rcases SR.1 hm with h'|h'
   ·exact hi m h'
   ·simp at h';rw[h'];simpa using hg
 ·have:i=ns.length:=by omega
  subst this;rw[TG]at hi;refine bX ?_;refine ak ?_;refine aZ ?_;have:ns.findIdx? g=none:=by rw[Ya];exactλn hn=>hi n hn
  rw[this]at hk;exact bW hk
theorem ais{ns:List Int}{f:AV}{e:End}(ik:ns.length<=4)(g:Int->Bool)(hf:∀n∈ns,∀(k kp:AV->List aa->Prop),k (bv (g n)) H->i_ lv SA f H [iv n] k kp)(hk:k (bv (ns.any g)) H):bh lv SA 81 H [.sl ns.length (ns.map iv) e,f] k kp:=by
 refine bF (rs:=[.tmp 4]) (nt:=9) Tryz.f81 λhH hA=> ?_;simp only[bk,SV];refine ak ?_;refine ak ?_;refine aI ((ahG ik g hf ?_));(try simp only[seval]);refine aZ ?_;refine bW ?_;have:decide ((match ns.findIdx? g with|some i=>(i:Int)|none=> -1)>=0)=ns.any g:=by
  cases h:ns.findIdx? g with
  |none=>
   rw[Ya]at h;have:ns.any g=false:=by
    rw[List.any_eq_false];exactλn hn=>by simp[h n hn]
   rw[this];rfl
  |some i=>
   rw[Xs]at h;obtain⟨h1,h2,_⟩:=h;have:ns.any g=true:=Up.2 ⟨ns[i],Wu h1,h2⟩;rw[this];simp
 rw[this];exact hk
def yx (x:aj)(ns:List Int):Bool:= !(ns.any λn=>decide (n<0)||decide (n>(x.pieces.length:Int)-1))
theorem Jj{x:aj}{ns:List Int}{e:End}{il ir:Nat}(hx:x.Ok)(ik:ns.length<=4)(hl:H[il]?=some (.cells [.sl ns.length (ns.map iv) e] 22))(hr:H[ir]?=some (.cells x.l 26))(hk:k (bv (yx x ns)) H):bh lv SA 80 H [.op il 0,.op ir 0] k kp:=by
 refine bF (rs:=[.tmp 2]) (nt:=7) Tryz.f80 λhH hA=> ?_;simp only[bk,SV];refine ak ?_;refine ai ?_;simp only[seval,hl,T_,UD,Uj,TP];refine aI ((ais (ns:=ns) ik (λn=>decide (n<0)||decide (n>(x.pieces.length:Int)-1)) (λn hn k kp hk=> ?_) ?_))
 ·exact cx (ait hx hr hk)
 (try simp only[seval]);refine aZ ?_;exact bW hk
theorem oe{x:aj}{ns:List Int}{e:End}(hk:k (.fn (.func 80) [] [.op (H.length+1) 0,.op H.length 0]) (H++[.cells x.l 26,.cells [.sl ns.length (ns.map iv) e] 22])):bh lv SA 58 H [x.av,.sl ns.length (ns.map iv) e] k kp:=by
 refine bF (rs:=[.tmp 4]) (nt:=6) Tryz.f58 λhH hA=> ?_;simp only[bk,SV,aj.av];refine ak ?_;refine ai ?_;simp only[seval,T_,UD,Uj,TP];refine aZ ?_;exact bW hk
end
open Go.Conc Go.Proofs Go.Gg.Tk
structure bc where
 aA:List Int
 g:Int
 s:Int
def AY (τ:bc):aa:=.cells [a_ τ.aA,.val (.int .i64 τ.g),.val (.int .u64 τ.s)] 73
def HS (a b:Int):Int:=TA.wrap (Uh TA.bits a^^^Uh TA.bits b).toNat
def adv (g:Int):Int:=TA.wrap (TA.wrap (TA.wrap g* 15074714826142052245)+11400714819323198485)
def NU (τ:bc):Int:=match τ.aA[τ.g.toNat]?with
 |some x=>HS (adv τ.g) (TA.wrap (TA.wrap x* 12620523164723586485))
 |none=>adv τ.g
def ani (s w:Int):Int:=TA.wrap (TA.wrap (s+w)* 13787848793156543929)
def anj (s:Int):Int:=HS s (s.fdiv (2^min 31 TA.bits))
def G0 (s:Int):Int:=(HS s (s.fdiv (2^min 27 TA.bits))).fdiv (2^min 9 TA.bits)
def tick (τ:bc):bc:=⟨τ.aA,τ.g+1,anj (ani τ.s (NU τ))⟩
def wI (τ:bc):Int:=G0 (TA.wrap ((tick τ).s* 10723151780598845931))
theorem adn(n:Int)(h0:0<=n)(h:n<2^64):TA.wrap n=n:=by
 have h1:TA.bits=64:=rfl;have h2:TA.signed=false:=rfl;unfold Xa;rw[h1,h2];simp;omega
theorem arT(n:Int):0<=TA.wrap n/\TA.wrap n<2^64:=by
 have h1:TA.bits=64:=rfl;have h2:TA.signed=false:=rfl;unfold Xa;rw[h1,h2];simp;omega
theorem abu(s:Int):0<=G0 s/\G0 s<2^55:=by
 unfold G0 HS;have h:=arT (Uh TA.bits s^^^Uh TA.bits (s.fdiv (2^min 27 TA.bits))).toNat;have e:(2:Int)^min 9 TA.bits=512:=by decide
 rw[e,Int.fdiv_eq_ediv_of_nonneg _ (show (0:Int)<=512 by decide)];omega
def de (τ:bc)(n:Int):Int:=if n<1 then 0 else(wI τ).tmod (n+1)
theorem lC(τ:bc)(n:Int):0<=de τ n/\(de τ n<=n\/de τ n=0):=by
 unfold de;split
 ·omega
 ·have h:=(abu (TA.wrap ((tick τ).s* 10723151780598845931))).1;have h1:=Int.tmod_nonneg (n+1) h;have h2:=Int.tmod_lt_of_pos (wI τ) (show 0<n+1 by omega);unfold wI at h2⊢;omega
def A3 (τ:bc)(lo hi:Int):Int:=lo+de τ (hi-lo)
theorem adt(τ:bc){lo hi:Int}(h:lo<=hi):lo<=A3 τ lo hi/\A3 τ lo hi<=hi:=by
 have:=lC τ (hi-lo);unfold A3;omega
def apm (τ:bc)(n:Int):Bool:=de τ (n-1)==0
structure dJ (Gf:bc->List aa)(t N:Nat):Prop where
 len:∀τ,(Gf τ).length=N
 get:∀τ,(Gf τ)[t]?=some (AY τ)
 set:∀τ τ',(Gf τ).set t (AY τ')=Gf τ'
 ok:∀m τ τ',(∀z∈Gf τ,fb m z)->∀z∈Gf τ',fb m z
theorem dJ.more{Gf:bc->List aa}{t N:Nat}(h:dJ Gf t N)(L:List aa):dJ (λτ=>Gf τ++L) t (N+L.length)where
 len:=λτ=>by simp[h.len]
 get:=λτ=>fO (h.get τ)
 set:=λτ τ'=>by show (Gf τ++L).set t _=_;rw[US _ _ (eR (h.get τ)),h.set]
 ok:=λm τ τ' hk z hz=>(SR.1 hz).elim (λhz=>h.ok m τ τ' (λv hv=>hk v (Tf _ hv)) z hz) (λhz=>hk z (S4 _ hz))
theorem dJ.au{Gf:bc->List aa}{t N:Nat}(h:dJ Gf t N){τ:bc}(hH:bI (Gf τ))(τ':bc):bI (Gf τ'):=λz hz=>by
 have:=h.ok N τ τ' (λw hw=>by have:=hH w hw;rwa [h.len]at this) z hz;rwa [h.len]
section
variable {Gf:bc->List aa}{t N:Nat}(h:dJ Gf t N)
include h
theorem dJ.g0(τ:bc)(L:List aa):(Gf τ++L)[N]?=L[0]?:=by have:=vI (Gf τ) L 0;rwa [h.len]at this
theorem dJ.g1(τ:bc)(L:List aa):(Gf τ++L)[N+1]?=L[1]?:=by have:=vI (Gf τ) L 1;rwa [h.len]at this
theorem dJ.g2(τ:bc)(L:List aa):(Gf τ++L)[N+1+1]?=L[2]?:=by have:=vI (Gf τ) L 2;rwa [h.len]at this
theorem dJ.g3(τ:bc)(L:List aa):(Gf τ++L)[N+1+1+1]?=L[3]?:=by have:=vI (Gf τ) L 3;rwa [h.len]at this
theorem dJ.h2(τ:bc)(L:List aa):(Gf τ++L)[N+2]?=L[2]?:=h.g2 τ L
theorem dJ.h3(τ:bc)(L:List aa):(Gf τ++L)[N+3]?=L[3]?:=h.g3 τ L
theorem dJ.s0(τ:bc)(L:List aa)(x:aa):(Gf τ++L).set N x=Gf τ++L.set 0 x:=by have:=vJ (Gf τ) L 0 x;rwa [h.len]at this
theorem dJ.s1(τ:bc)(L:List aa)(x:aa):(Gf τ++L).set (N+1) x=Gf τ++L.set 1 x:=by have:=vJ (Gf τ) L 1 x;rwa [h.len]at this
theorem dJ.s2(τ:bc)(L:List aa)(x:aa):(Gf τ++L).set (N+1+1) x=Gf τ++L.set 2 x:=by have:=vJ (Gf τ) L 2 x;rwa [h.len]at this
theorem dJ.s3(τ:bc)(L:List aa)(x:aa):(Gf τ++L).set (N+1+1+1) x=Gf τ++L.set 3 x:=by have:=vJ (Gf τ) L 3 x;rwa [h.len]at this
theorem dJ.t2(τ:bc)(L:List aa)(x:aa):(Gf τ++L).set (N+2) x=Gf τ++L.set 2 x:=h.s2 τ L x
theorem dJ.t3(τ:bc)(L:List aa)(x:aa):(Gf τ++L).set (N+3) x=Gf τ++L.set 3 x:=h.s3 τ L x
end
theorem anQ(m:Nat)(τ:bc):fb m (AY τ):=by
 intro a ha;simp only[SK,S0,or_false]at ha;rcases ha with rfl|rfl|rfl
 ·rw[Av];trivial
 ·exact .val _
 ·exact .val _
theorem arD(H:List aa):dJ (λτ=>H++[AY τ]) H.length (H.length+1)where
 len:=λτ=>by simp
 get:=λτ=>by simp
 set:=λτ τ'=>by simp
 ok:=λm τ τ' hk z hz=>by
  rcases SR.1 hz with hz|hz
  ·exact hk z (Tf _ hz)
  ·rw[S8.1 hz];exact anQ _ _
structure bc.Ok (τ:bc)(b:Int):Prop where
 g0:0<=τ.g
 g:τ.g<=b
 len:τ.aA.length<=2^50
section
variable {lv:Bool}{H:List aa}{k kp:AV->List aa->Prop}{Gf:bc->List aa}{t N:Nat}{τ:bc}{b:Int}
theorem ahW{aA:List Int}(hk:k (.op H.length 0) (H++[AY ⟨aA,0,7640891576956012809⟩])):bh lv SA 16 H [a_ aA] k kp:=by
 refine bF (rs:=[.tmp 2]) (nt:=6) Tryz.f16 λhH hA=> ?_;simp only[bk,SV];refine ak ?_;refine ak ?_;refine aZ ?_;exact bW hk
theorem bc.Ok.tick(h:τ.Ok b):(tick τ).Ok (b+1):=⟨by have:=h.g0;show 0<=τ.g+1;omega,by have:=h.g;show τ.g+1<=b+1;omega,h.len⟩
theorem bc.Ok.mono{b':Int}(h:τ.Ok b)(hb:b<=b'):τ.Ok b':=⟨h.g0,by have:=h.g;omega,h.len⟩
theorem aih(hT:dJ Gf t N)(hτ:τ.Ok b)(hb:b<2^60)(hk:k (.val (.int .u64 (wI τ))) (Gf (tick τ))):bh lv SA 55 (Gf τ) [.op t 0] k kp:=by
 obtain⟨aA,g,s⟩:=τ;obtain⟨lL,hgb,RV⟩:=hτ;simp only at lL hgb RV;refine bF (rs:=[.tmp 2]) (nt:=76) Tryz.f55 λhH hA=> ?_;simp only[bk,SV];have hg:∀τ,(Gf τ)[t]?=some (.cells [.sl τ.aA.length (τ.aA.map iv) .shut,.val (.int .i64 τ.g),.val (.int .u64 τ.s)] 73):=hT.get;have hs:∀τ (Ds:List Int) g' s',(Gf τ).set t (.cells [.sl Ds.length (Ds.map iv) .shut,.val (.int .i64 g'),.val (.int .u64 s')] 73)=Gf ⟨Ds,g',s'⟩:=λτ Ds g' s'=>hT.set τ ⟨Ds,g',s'⟩;obtain⟨n,rfl⟩:∃n:Nat,g=n:=⟨g.toNat,by omega⟩;have hw:SD.wrap ((n:Int)+1)=n+1:=bA _ (by omega);refine ak ?_;refine ai ?_;simp only[seval,hg];refine eO 9 ?_;simp only[seval,hg];refine aD ?_;refine⟨λh=> ?_,λh=> ?_⟩
 ·have jI:n<aA.length:=by simpa using h
  obtain⟨x,hx⟩:=b9 jI;refine eO 13 ?_;simp only[seval,hg,e9 hx,jc jI,BB];refine ai ?_;simp only[seval,hg,hw,hs];refine ai ?_;simp only[seval,hg,hs];refine eO 11 ?_;simp only[seval,hg,hs,BA,BB];refine ai ?_;simp only[seval,hg];refine ai ?_;simp only[seval,BA,BB];refine aZ ?_;refine bW ?_;unfold wI tick NU at hk;simp only[VP,hx]at hk;exact hk
 ·have jI:¬n<aA.length:=by simpa using h
  have hx:aA[n]?=none:=by rw[Uv];omega
  refine aN ?_;refine ai ?_;simp only[seval,hg,hw,hs];refine ai ?_;simp only[seval,hg,hs];refine eO 11 ?_;simp only[seval,hg,hs,BA,BB];refine ai ?_;simp only[seval,hg];refine ai ?_;simp only[seval,BA,BB];refine aZ ?_;refine bW ?_;unfold wI tick NU at hk;simp only[VP,hx]at hk;exact hk
theorem o0{n:Int}(hT:dJ Gf t N)(hτ:τ.Ok b)(hb:b<2^60)(hn:n<2^60)(hk:k (iv (de τ n)) (Gf (tick τ))):bh lv SA 25 (Gf τ) [.op t 0,iv n] k kp:=by
 refine bF (rs:=[.tmp 4]) (nt:=16) Tryz.f25 λhH hA=> ?_;simp only[bk,SV];refine ak ?_;refine ak ?_;refine aI ((aih hT hτ hb ?_));(try simp only[seval]);refine ak ?_;refine aD ?_;refine⟨λh=> ?_,λh=> ?_⟩
 ·have h:n<1:=by simpa using h
  refine ak ?_;refine aZ ?_;rw[de,if_pos h]at hk;exact bW hk
 ·have h:¬n<1:=by simpa using h
  have ho:=abu (TA.wrap ((tick τ).s* 10723151780598845931));have bM:TA.wrap n=n:=adn n (by omega) (by omega);have fh:TA.wrap (n+1)=n+1:=adn _ (by omega) (by omega);have oC:n+1≠0:=by omega
  have hr:=lC τ n;rw[de,if_neg h]at hk hr;have tJ:SD.wrap ((wI τ).tmod (n+1))=(wI τ).tmod (n+1):=bA _ (by omega);refine aN ?_;refine ai ?_;simp only[seval,aev,bM,fh,tJ,oC];refine aZ ?_;exact bW hk
theorem P2{lo hi:Int}(hT:dJ Gf t N)(hτ:τ.Ok b)(hb:b<2^60)(pn:0<=lo/\lo<2^20)(FK: -1<=hi/\hi<2^20)(hk:k (iv (A3 τ lo hi)) (Gf (tick τ))):bh lv SA 23 (Gf τ) [.op t 0,iv lo,iv hi] k kp:=by
 refine bF (rs:=[.tmp 6]) (nt:=14) Tryz.f23 λhH hA=> ?_;simp only[bk,SV];have bM:SD.wrap (hi-lo)=hi-lo:=bA _ (by omega);have hr:=lC τ (hi-lo);have fh:SD.wrap (lo+de τ (hi-lo))=lo+de τ (hi-lo):=bA _ (by omega);refine ak ?_;refine ai ?_;simp only[seval,bM];refine aI ((o0 hT hτ hb (by omega) ?_));(try simp only[seval,fh]);refine aZ ?_;exact bW hk
theorem EY{n:Int}(hT:dJ Gf t N)(hτ:τ.Ok b)(hb:b<2^60)(hn:0<=n/\n<2^20)(hk:k (bv (apm τ n)) (Gf (tick τ))):bh lv SA 46 (Gf τ) [.op t 0,iv n] k kp:=by
 refine bF (rs:=[.tmp 4]) (nt:=10) Tryz.f46 λhH hA=> ?_;simp only[bk,SV];have bM:SD.wrap (n-1)=n-1:=bA _ (by omega);refine ak ?_;refine ai ?_;simp only[seval,bM];refine aI ((o0 hT hτ hb (by omega) ?_));(try simp only[seval]);refine aZ ?_;exact bW hk
end
theorem tP{α:Type}{xs:List α}{i:Nat}{x:α}(h:xs[i]?=some x):x∈xs:=Tc h
section
variable {lv:Bool}{H:List aa}{k kp:AV->List aa->Prop}
inductive qY:List AV->List AV->Prop
 |nil:qY [] []
 |cons {a b:AV} {l m:List AV} (h:Wk a b) (t:qY l m):qY (a::l) (b::m)
theorem qY.len{l m:List AV}(h:qY l m):l.length=m.length:=by
 induction h with
 |nil=>rfl
 |cons _ _ ih=>simp[ih]
theorem qY.at{l m:List AV}(h:qY l m):∀(i:Nat)(a b:AV),m[i]?=some a->l[i]?=some b->Wk b a:=by
 induction h with
 |nil=>intro i a b h;simp at h
 |cons h _ ih=>
  intro i a b h1 h2
  match i with
  |0=>cases h1;cases h2;exact h
  |i+1=>exact ih i a b h1 h2
theorem HF{l l':List AV}(h:qY l l'):Wk (.agg l) (.agg l'):=λE v hd=>by
 cases hd with
 |agg hs h1=>
  refine .agg (by rw[hs,h.len]) λi x hx=> ?_;obtain⟨y,hy⟩:=b9 (xs:=l) (i:=i) (by rw[h.len];exact eR hx);exact h.at i x y hx hy E _ (h1 i y hy)
theorem D9{n:Nat}{l l':List AV}{e:End}(hl:l.length=l'.length)(h:∀(i:Nat) a b,l'[i]?=some a->l[i]?=some b->Wk b a):Wk (.sl n l e) (.sl n l' e):=λE v hd=>by
 cases hd with
 |sl b o cap f hc he h1 h2=>
  refine .sl b o cap f hc he (λi hi=>h1 i (by omega)) λi x hx=> ?_;obtain⟨y,hy⟩:=b9 (xs:=l) (i:=i) (by have:=eR hx;omega);exact h i x y hx hy E _ (h2 i y hy)
 |nil he=>
  have:l'=[]:=VD hl.symm;subst this;exact .nil he
theorem ar9{a b c:AV}(h:Wk a b)(k:Wk b c):Wk a c:=λE v hd=>k E v (h E v hd)
theorem ar8{n:Nat}{l l':List AV}{e:End}(h:qY l l'):Wk (.sl n l e) (.sl n l' .shut):=ar9 (D9 h.len h.at) (g_ _ _ _)
theorem Dx:(1<=2^24)=True:=by simp
theorem Se{H L:List aa}(h:bI H)(hL:∀z∈L,∀n,fb n z):bI (H++L):=λz hz=>by
 rcases SR.1 hz with h'|h'
 ·exact(h z h').mono (by simp)
 ·exact hL z h' _
theorem He{base Vi Vn T:List (Nat×AV)}{H H':List aa}(G:List aa)(hk:sC T (Vi++base) Vn)(hv:∀p∈Vn,∃b,look T p.1=some b/\Wk b p.2)(au:bI H)(hlt:∀p∈Vn,Lt H.length p.2)(hG:H'=H++G):qV base Vi Vn H ⟨T,H'⟩:=⟨hk,hv,G,hG,.inr ⟨au,hlt⟩⟩
theorem arn{xs ys:List Int}{i:Nat}{x y:Int}(hx:xs[i]?=some x)(hy:ys[i]?=some y)(h:xs.take i=ys.take i)(e:x=y):xs.take (i+1)=ys.take (i+1):=by
 obtain⟨hj,rfl⟩:=SL.1 hx;obtain⟨hk,rfl⟩:=SL.1 hy;rw[Vk hj,Vk hk,h,e]
theorem agw{xs:List Int}{i:Nat}{x n:Int}(h:xs[i]?=some x):(xs.take (i+1)).contains n=((xs.take i).contains n||n==x):=by
 obtain⟨hj,rfl⟩:=SL.1 h;rw[Vk hj,Yl,Yl,ZN];simp
theorem xq{xs ys:List Int}{e e':End}(hx:xs.length<2^60)(hk:k (bv (decide (xs=ys))) H):bh lv SA 20 H [.sl xs.length (xs.map iv) e,.sl ys.length (ys.map iv) e'] k kp:=by
 refine bF (rs:=[.tmp 4]) (nt:=26) Tryz.f20 λhH hA=> ?_;simp only[bk,SV];refine ak ?_;refine ak ?_;refine aD ?_;refine⟨λh=> ?_,λh=> ?_⟩
 ·have h:xs≠ys:=λe=>by subst e;simp at h
  refine ak ?_;refine aZ ?_;rw[decide_eq_false h]at hk;exact bW hk
 ·have h:xs.length=ys.length:=by
   have h:(xs.length:Int)=ys.length:=(by simpa using h);omega
  refine aN ?_;refine ak ?_;refine cq ?_;refine sJ xs.length (λi:Nat=>[(5,iv i)]) (λ_=>_) (λi=>xs.take i=ys.take i) (by simp) (λbQ cP i cK hi R hR=> ?_);refine ak ?_;refine aD ?_;refine⟨λh2=> ?_,λh2=> ?_⟩
  ·have hlt:i<xs.length:=(by omega);obtain⟨x,uX⟩:=b9 hlt;obtain⟨y,fX⟩:=b9 (xs:=ys) (i:=i) (by omega);refine aN ?_;refine cq ?_;refine eO 8 ?_;simp only[seval,e9 uX,e9 fX,jc hlt,jc (eR fX)];refine aD ?_;refine⟨λh3=> ?_,λh3=> ?_⟩
   ·have h3:xs≠ys:=λe=>(by subst e;rw[uX]at fX;cases fX;simp at h3);refine ak ?_;refine aZ ?_;rw[decide_eq_false h3]at hk;exact bW hk
   ·have h3:x=y:=(by simpa using h3);refine aN ?_;refine ak ?_;refine hR _ ⟨hlt,arn uX fX hi h3,?_⟩;rw[bA _ (by omega)];exact da
  ·have qk:i=xs.length:=(by omega);refine bX ?_;refine ak ?_;refine aZ ?_;have h3:xs=ys:=by
    rw[qk,TG]at hi;rw[hi,h,TG]
   rw[decide_eq_true h3]at hk;exact bW hk
theorem aik{xs:List Int}{n:Int}{e:End}(hx:xs.length<2^60)(hk:k (bv (xs.contains n)) H):bh lv SA 61 H [.sl xs.length (xs.map iv) e,iv n] k kp:=by
 refine bF (rs:=[.tmp 4]) (nt:=18) Tryz.f61 λhH hA=> ?_;simp only[bk,SV];refine ak ?_;refine ak ?_;refine cq ?_;refine sJ xs.length (λi:Nat=>[(5,iv i)]) (λ_=>_) (λi=>(xs.take i).contains n=false) (by simp) (λbQ cP i cK hi R hR=> ?_);refine ak ?_;refine aD ?_;refine⟨λh2=> ?_,λh2=> ?_⟩
 ·have hlt:i<xs.length:=by omega
  obtain⟨x,uX⟩:=b9 hlt;have hct:=agw (n:=n) uX;refine aN ?_;refine ai ?_;simp only[seval,e9 uX,jc hlt];refine aD ?_;refine⟨λh3=> ?_,λh3=> ?_⟩
  ·have h3:x=n:=(by simpa using h3);refine ak ?_;refine aZ ?_;have:xs.contains n=true:=(by rw[Y1];rw[<- h3];exact tP uX);rw[this]at hk;exact bW hk
  ·have h3:¬x=n:=(by simpa using h3);refine aN ?_;refine ak ?_;refine hR _ ⟨hlt,by rw[hct,hi];simp;omega,?_⟩;rw[bA _ (by omega)];exact da
 ·have qk:i=xs.length:=by omega
  subst qk;rw[TG]at hi;rw[hi]at hk;refine bX ?_;refine ak ?_;refine aZ ?_;exact bW hk
end
def fM (x:aj)(deep:Int)(D:Kn):Prop:=∃(p:Nat)(js:List Nat),x.am=p/\js.Perm (SZ (p+1))/\nY x deep js D/\bJ D
theorem kR(x:aj):∀a∈x.l,a.leaf=true:=λa ha=>by
 simp only[aj.l,SK,S0,or_false]at ha;rcases ha with rfl|rfl|rfl|rfl|rfl|rfl<;>rfl
section
variable {H:List aa}{k kp:AV->List aa->Prop}
theorem Ip{lv:Bool}:N_ lv H (.fn (.func 52) [] []) true:=λL k kp hk=>cx (aie hk)
theorem ahZ{x:aj}(hx:x.Ok)(hm:H[0]?=some .main)(hk:∀D,fM x 0 D->k (.aL [iv (if D.has then(D.aK.length:Int)else 0),iv 0]) H):bh true SA 21 H [x.av] k kp:=by
 refine bF (rs:=[.tmp 2,.tmp 3]) (nt:=19) Tryz.f21 λhH hA=> ?_;simp only[bk,SV,aj.av];have hp:=hx.am;obtain⟨p,eB⟩:∃p:Nat,x.am=p:=⟨x.am.toNat,by omega⟩;have bO:x.l=[iv x.first,iv x.hours,iv x.am,dS x.seen,aW x.pieces,aW x.aB]:=rfl;have aT:∀(L:List aa),(H++L)[H.length]?=L[0]?:=λL=>aX H L 0;have bt:x.l.length=6:=rfl;have ej:Ui 6 x.l=x.l:=rfl;refine ak ?_;refine ai ?_;simp only[seval,aT,bt,ej];refine aI ((zt (x:=x) hx eB (fO hm) Ip (λh=>by cases h) λ_ js D L mp iC jG cg tr hg=> ?_));have eS:fM x 0 D:=⟨p,js,eB,iC,jG,cg⟩;have bS:=Kn.len cg mp;have dZ:=u_ D mp;obtain⟨B,hB⟩:∃B,B=H++[aa.cells x.l 26]++L:=⟨_,rfl⟩;rw[<- hB]at hg⊢;(try simp only[seval,aj.av,bt,bS]);refine⟨kR x,dZ,?_⟩;have fE:∀(L':List aa)(n:Int),k (.aL [iv n,iv 0]) H->cF H.length (B++L') (.aL [iv n,iv 0]) k:=λL' n h=>by
  rw[hB,SC,SC];exact iM hH (Wk.refl _) (by simp[jL,eK]) h
 have ov:∀(L':List aa),(B++L')[B.length+1]?=L'[1]?:=λL'=>aX B L' 1;have wj:∀(L':List aa),(B++L')[mp]?=some (.obj (.map (D.aK.zipIdx.map ew).toArray D.aK.length)):=λL'=>fO hg;have du:(D.l mp).drop 1=.mp mp::((D.l mp).drop 2):=rfl;have aJ:=hk D eS;cases hh:D.has with
 |false=>
  have hE:fe D=11:=by rw[fe,hh];rfl
  rw[hh]at aJ;refine ai ?_;simp only[seval,hE,show ((11:Int)==11)=true from rfl];refine aD ?_;refine ak ?_;refine aZ ?_;exact fE _ 0 aJ
 |true=>
  have hE:fe D=0:=by rw[fe,hh];rfl
  rw[hh]at aJ;refine ai ?_;simp only[seval,hE,show ((0:Int)==11)=false from rfl];refine aD ?_;refine aN ?_;refine ai ?_;simp only[seval,ov,du,wj];have aV:(D.aK.zipIdx.map ew).toArray.size=D.aK.length:=by simp
  rw[ad3 _ _ _ _ _ F.Oc (wj _),aV];refine aZ ?_;exact fE _ _ aJ
end
namespace Tk
def vM (some other:Bool):Int:=if some&&other then 3 else if some then 1 else 2
end Tk
open Go.Conc Go.Proofs Go.Gg.Tk
section
variable {lv:Bool}{H:List aa}{k kp:AV->List aa->Prop}
theorem aij{D:Kn}{mp s q:Nat}(hD:bJ D)(hs:s<3)(hq:q<4)(hk:k (iv (vM ((D.aU.getD s 0).testBit q) (D.aU.getD s 0!=2^q))) H):bh lv SA 60 H [.agg (D.l mp),.c9 97 (.agg [iv s,iv q])] k kp:=by
 refine bF (rs:=[.tmp 4]) (nt:=65) Tryz.f60 λhH hA=> ?_;simp only[bk,SV];have bS:=Kn.len hD mp;obtain⟨u,hu⟩:=b9 (xs:=D.aU) (i:=s) (by rw[hD.aU];exact hs);have lU:D.aU.getD s 0=u:=by rw[SE,hu];rfl
 rw[lU]at hk;have lu:=hD.lY _ (Tc hu);have b3:(0<=(s:Int)/\(s:Int)<3)=True:=by simp;omega
 have aT:∀(L:List aa),(H++L)[H.length]?=L[0]?:=λL=>aX H L 0;have du:∀(L:List aa),(H++L)[H.length+1]?=L[1]?:=λL=>aX H L 1;have Cu:=Kn.DC hD (mp:=mp) hu;refine ak ?_;refine ak ?_;refine ak ?_;refine ai ?_;simp only[seval,F.alK];refine aD ?_;refine ai ?_;simp only[seval,F.aar];refine aD ?_;refine ak ?_;refine eO 18 ?_;simp only[seval,aT,du,b3,Cu];refine iw (bv (u.testBit q)) (cx (xu lu ⟨rfl,rfl⟩)) ?_;refine iw (wv (2^q)) (cx (uu (m:=0) (by decide) (show q<16 by omega) ⟨by rw[Nat.zero_or],rfl⟩)) ?_;have aH:((u:Int)!=((2^q:Nat):Int))=(u !=2^q):=by
  rw[Va,bne_iff_ne,bne_iff_ne];exact not_congr Int.ofNat_inj
 rw[show wv u=AV.val (.int .u16 (u:Int))from rfl,show wv (2^q)=AV.val (.int .u16 ((2^q:Nat):Int))from rfl,Om,aH];have fin:∀(L:List aa)(n:Int),vM (u.testBit q) (u !=2^q)=n->cF H.length (H++L) (iv n) k:=λL n h=>by rw[h]at hk;exact lG hH hk
 generalize u.testBit q=s1 at fin⊢;generalize(u !=2^q)=s2 at fin⊢;cases s1<;>cases s2
 all_goals
  refine ak ?_;refine cq ?_;refine cq ?_;refine cq ?_;refine ak ?_;refine aD ?_
 ·refine aN ?_;refine ak ?_;refine aD ?_;refine bX ?_;refine ak ?_;refine ak ?_;refine bX ?_;refine ak ?_;refine aZ ?_;exact fin _ 2 rfl
 ·refine aN ?_;refine ak ?_;refine aD ?_;refine bX ?_;refine ak ?_;refine ak ?_;refine bX ?_;refine ak ?_;refine aZ ?_;exact fin _ 2 rfl
 ·refine aN ?_;refine ak ?_;refine aD ?_;refine aN ?_;refine bX ?_;refine ak ?_;refine bX ?_;refine ak ?_;refine aZ ?_;exact fin _ 1 rfl
 ·refine bX ?_;refine ak ?_;refine ak ?_;refine ak ?_;refine bX ?_;refine ak ?_;refine aZ ?_;exact fin _ 3 rfl
theorem aor{x:aj}{q:Nat}(hq:q<x.pieces.length):yx x [(q:Int)]=true:=by
 unfold yx;simp;omega
theorem aii{x:aj}{s q ir ip is:Nat}(hx:x.Ok)(hs:s<x.aB.length)(hq:q<x.pieces.length)(hr:H[ir]?=some (.cells x.l 26))(h1:H[ip]?=some (.cells [iv q] 3))(h2:H[is]?=some (.cells [iv s] 3))(hk:k (bv true) H):bh lv SA 57 H [.op ir 0,.op ip 0,.op is 0] k kp:=by
 refine bF (rs:=[.tmp 3]) (nt:=18) Tryz.f57 λhH hA=> ?_;simp only[bk,SV];have bO:x.l=[iv x.first,iv x.hours,iv x.am,dS x.seen,aW x.pieces,aW x.aB]:=rfl;have bt:x.l.length=6:=rfl;have ej:Ui 6 x.l=x.l:=rfl;have aQ:=hx.dc;have aT:∀(L:List aa),(H++L)[H.length]?=L[0]?:=λL=>aX H L 0;have du:∀(L:List aa),(H++L)[H.length+1]?=L[1]?:=λL=>aX H L 1;have au:=aor hq;have hw:SD.wrap ((x.aB.length:Int)-1)=(x.aB.length:Int)-1:=bA _ (by omega);have cK:(decide ((s:Int)<0)||decide ((s:Int)>(x.aB.length:Int)-1))=false:=by simp;omega
 refine ak ?_;refine ai ?_;simp only[seval,z1,hr,h1,bt,ej];(try refine⟨by decide,?_⟩);refine aI ((oe (x:=x) (ns:=[(q:Int)]) (e:=.exact) ?_));(try simp only[seval]);refine aI ((Jj (x:=x) (ns:=[(q:Int)]) (e:=.exact) hx (by simp) (by rw[du];rfl) (by rw[aT];rfl) ?_));(try simp only[seval,au,fO hr,fO h2,bO,aW,hw]);refine aI ((sT ?_));(try simp only[seval,cK]);refine aZ ?_;exact lG hH hk
theorem ah3{x:aj}{s q:Nat}(hx:x.Ok)(hs:s<x.aB.length)(hq:q<x.pieces.length)(hm:H[0]?=some .main)(hk:∀D,fM x 2 D->k (.aL [iv (if D.has then vM ((D.aU.getD s 0).testBit q) (D.aU.getD s 0!=2^q)else 0),iv (fe D)]) H):bh true SA 28 H [x.av,iv s,iv q] k kp:=by
 refine bF (rs:=[.tmp 6,.tmp 7]) (nt:=27) Tryz.f28 λhH hA=> ?_;simp only[bk,SV,aj.av];have hp:=hx.am;obtain⟨p,eB⟩:∃p:Nat,x.am=p:=⟨x.am.toNat,by omega⟩;have aT:∀(L:List aa),(H++L)[H.length]?=L[0]?:=λL=>aX H L 0;have du:∀(L:List aa),(H++L)[H.length+1]?=L[1]?:=λL=>aX H L 1;have lf:∀(L:List aa),(H++L)[H.length+2]?=L[2]?:=λL=>aX H L 2;have bt:x.l.length=6:=rfl;have ej:Ui 6 x.l=x.l:=rfl;refine ak ?_;refine ai ?_;simp only[seval,aT,bt,ej,T_,UD,Uj,TP];refine aI ((zt (x:=x) (b:=true) hx eB (fO hm) (λL k kp hk=>cx (aii hx hs hq (by rw[SC,aT];rfl) (by rw[SC,lf];rfl) (by rw[SC,du];rfl) hk)) (λh=>by cases h) λ_ js D L mp iC jG cg tr hg=> ?_));have eS:fM x 2 D:=⟨p,js,eB,iC,jG,cg⟩;have bS:=Kn.len cg mp;have dZ:=u_ D mp;obtain⟨Y,hY⟩:∃Y:List aa,Y=[aa.cells x.l 26,.cells [iv s] 3,.cells [iv q] 3]++L:=⟨_,rfl⟩;obtain⟨B,hB⟩:∃B,B=H++Y:=⟨_,rfl⟩;have sX:H++[aa.cells x.l 26,.cells [iv s] 3,.cells [iv q] 3]++L=B:=by rw[hB,hY,SC]
 have ov:∀(L':List aa),(B++L')[B.length+1]?=L'[1]?:=λL'=>aX B L' 1;have hbs:∀(L':List aa),(B++L')[H.length+1]?=some (.cells [iv s] 3):=λL'=>by rw[hB,hY,SC,du];rfl
 have Co:∀(L':List aa),(B++L')[H.length+2]?=some (.cells [iv q] 3):=λL'=>by rw[hB,hY,SC,lf];rfl
 have aJ:=hk D eS;have fE:∀(L':List aa)(n m:Int),k (.aL [iv n,iv m]) H->cF H.length (B++L') (.aL [iv n,iv m]) k:=λL' n m h=>by
  rw[hB,SC];exact iM hH (Wk.refl _) (by simp[jL,eK]) h
 rw[sX];clear sX hg hB;(try simp only[seval,aj.av,bt,bS]);refine⟨kR x,dZ,?_⟩;cases hh:D.has with
 |false=>
  have hE:fe D=11:=by rw[fe,hh];rfl
  rw[hE,hh]at aJ;refine ai ?_;simp only[seval,hE,show ((11:Int)!=0)=true from rfl];refine aD ?_;refine ak ?_;refine aZ ?_;exact fE _ 0 11 aJ
 |true=>
  have hE:fe D=0:=by rw[fe,hh];rfl
  rw[hE,hh]at aJ;refine ai ?_;simp only[seval,hE,show ((0:Int)!=0)=false from rfl];refine aD ?_;refine aN ?_;refine ai ?_;simp only[seval,F.aar,ov,hbs,Co,bS];rw[SX (i:=28) (by rw[bS];exact SQ _)];refine aI ((aij (s:=s) (q:=q) cg (by have:=hx.dc;omega) (by have:=hx.eD;omega) ?_));(try simp only[seval]);refine aZ ?_;exact fE _ _ 0 aJ
end
theorem z2:gM (SF .i64 0) 2=[iv 0,iv 0]:=rfl
section
variable {H:List aa}{k kp:AV->List aa->Prop}
end
namespace Tk
structure hO where
 lo:Int
 hi:Int
 is:Bool
def hO.add (b:hO)(v:Int):hO:=if b.is then⟨min b.lo v,max b.hi v,true⟩else⟨v,v,true⟩
end Tk
def Tk.hO.l (b:hO):List AV:=[iv b.lo,iv b.hi,bv b.is]
section
variable {lv:Bool}{H:List aa}{k kp:AV->List aa->Prop}
theorem aip{b:hO}{v:Int}{i:Nat}(hi:H[i]?=some (.cells b.l 112))(hk:k (.aL []) (H.set i (.cells (b.add v).l 112))):bh lv SA 74 H [.op i 0,iv v] k kp:=by
 refine bF (rs:=[]) (nt:=38) Tryz.f74 λhH hA=> ?_;simp only[bk,SV];have bB:=eR hi;obtain⟨hp,eX⟩:∃hp:List AV->List aa,∀l,hp l=H.set i (.cells l 112):=⟨_,λ_=>rfl⟩;have h0:H=hp b.l:=by rw[eX];exact(qH hi).symm
 have hg:∀l,(hp l)[i]?=some (.cells l 112):=λl=>by rw[eX,UQ,if_pos rfl,if_pos bB]
 have hs:∀l l',(hp l).set i (.cells l' 112)=hp l':=λl l'=>by rw[eX,eX,W6]
 have fin:∀(N:Nat)(l:List AV),l=(b.add v).l->cF N (hp l) (.aL []) k:=λN l e=>by
  rw[e,eX];exact bW hk
 rw[h0];clear hH hA eX h0 hi hk;refine ai ?_;simp only[seval,hg,hO.l];refine aD ?_;refine⟨λh=> ?_,λh=> ?_⟩
 ·have hb:b.is=false:=by simpa using h
  refine ai ?_;simp(maxSteps:=4000000) only[seval,hg,hs];refine oW [16,19] [0,1,2,3,4,5,6,7,8,9,10,11,12,13,14,15,16,17,18,19] [⟨0,false,[],[]⟩,⟨1,false,[],[([16],[16])]⟩,⟨2,false,[],[]⟩,⟨3,false,[],[]⟩,⟨4,false,[],[]⟩,⟨5,false,[],[]⟩,⟨6,false,[],[]⟩,⟨7,false,[],[]⟩,⟨8,false,[],[]⟩,⟨9,false,[],[]⟩,⟨10,false,[],[]⟩,⟨11,false,[],[]⟩,⟨12,false,[],[([16],[16])]⟩,⟨13,false,[],[([16],[16])]⟩,⟨14,false,[],[]⟩,⟨15,false,[],[]⟩,⟨16,true,[16],[]⟩,⟨17,false,[16],[]⟩,⟨18,false,[16],[]⟩,⟨19,true,[16,19],[]⟩] (λD=>bif isDone 19 D then hp [iv (min v v),iv (max v v),bv true]else bif isDone 16 D then hp [iv (min v v),iv v,bv true]else hp [iv v,iv v,bv true]) ?_;simp only[seval,hg,hs];have m1:(if v<v then v else v)=v:=by split<;>rfl
  have m2:min v v=v:=by omega
  have m3:max v v=v:=by omega
  rw[m1,m2,m3];exact⟨rfl,rfl,fin _ _ (by rw[hO.add,if_neg (by rw[hb];decide)];rfl)⟩
 ·have hb:b.is=true:=by simpa using h
  refine aN ?_;refine oW [16,19] [0,1,2,3,4,5,6,7,8,9,10,11,12,13,14,15,16,17,18,19] [⟨0,false,[],[]⟩,⟨1,false,[],[([16],[16])]⟩,⟨2,false,[],[]⟩,⟨3,false,[],[]⟩,⟨4,false,[],[]⟩,⟨5,false,[],[]⟩,⟨6,false,[],[]⟩,⟨7,false,[],[]⟩,⟨8,false,[],[]⟩,⟨9,false,[],[]⟩,⟨10,false,[],[]⟩,⟨11,false,[],[]⟩,⟨12,false,[],[([16],[16])]⟩,⟨13,false,[],[([16],[16])]⟩,⟨14,false,[],[]⟩,⟨15,false,[],[]⟩,⟨16,true,[16],[]⟩,⟨17,false,[16],[]⟩,⟨18,false,[16],[]⟩,⟨19,true,[16,19],[]⟩] (λD=>bif isDone 19 D then hp [iv (min b.lo v),iv (max b.hi v),bv b.is]else bif isDone 16 D then hp [iv (min b.lo v),iv b.hi,bv b.is]else hp [iv b.lo,iv b.hi,bv b.is]) ?_;simp only[seval,hg,hs];have m1:(if v<b.lo then v else b.lo)=min b.lo v:=by split<;>omega
  have m2:(if b.hi<v then v else b.hi)=max b.hi v:=by split<;>omega
  rw[m1,m2];exact⟨rfl,rfl,fin _ _ (by rw[hO.add,if_pos hb,hb];rfl)⟩
end
open Go.Conc Go.Proofs Go.Gg.Tk
namespace Tk
def vP (hour:Nat)(hs:List (List Int)):hO:=hs.foldl (λb h=>b.add (h.getD hour 0)) ⟨0,0,false⟩
end Tk
section
variable {lv:Bool}{H:List aa}{k kp:AV->List aa->Prop}
theorem aio{x:aj}{hour:Nat}{ih ir:Nat}(hh:(hour:Int)<=x.hours)(h1:H[ih]?=some (.cells [iv hour] 3))(hr:H[ir]?=some (.cells x.l 26))(hk:k (bv true) H):bh lv SA 73 H [.op ih 0,.op ir 0] k kp:=by
 refine bF (rs:=[.tmp 2]) (nt:=8) Tryz.f73 λhH hA=> ?_;simp only[bk,SV];have bO:x.l=[iv x.first,iv x.hours,iv x.am,dS x.seen,aW x.pieces,aW x.aB]:=rfl;have cK:(decide ((hour:Int)<0)||decide ((hour:Int)>x.hours))=false:=by simp;omega
 refine ak ?_;refine ai ?_;simp only[seval,h1,hr,bO];refine aI ((sT ?_));(try simp only[seval,cK]);refine aZ ?_;exact bW hk
theorem aib{x:aj}{hour:Nat}(hx:x.Ok)(hh:(hour:Int)<=x.hours)(hm:H[0]?=some .main)(hk:∀D,fM x 0 D->(D.has=false->k (.aL [.agg [iv 0,iv 0],iv 11]) H)/\(D.has=true->∀hs:List (List Int),hs.Perm D.aK->k (.aL [.agg [iv (vP hour hs).lo,iv (vP hour hs).hi],iv 0]) H)):bh true SA 36 H [x.av,iv hour] k kp:=by
 refine bF (rs:=[.cell 4 46,.tmp 5]) (nt:=41) Tryz.f36 λhH hA=> ?_;simp only[bk,SV,aj.av];have hp:=hx.am;have KD:=hx.hours;obtain⟨p,eB⟩:∃p:Nat,x.am=p:=⟨x.am.toNat,by omega⟩;have aT:∀(L:List aa),(H++L)[H.length]?=L[0]?:=λL=>aX H L 0;have du:∀(L:List aa),(H++L)[H.length+1]?=L[1]?:=λL=>aX H L 1;have lf:∀(L:List aa),(H++L)[H.length+2]?=L[2]?:=λL=>aX H L 2;have fW:∀(L:List aa)(y:aa),(H++L).set (H.length+2) y=H++L.set 2 y:=λL y=>dU H L 2 y;have bt:x.l.length=6:=rfl;have ej:Ui 6 x.l=x.l:=rfl;refine ak ?_;refine ai ?_;simp only[seval,aT,bt,ej,T_,UD,Uj,TP];refine aI ((zt (x:=x) (b:=true) hx eB (fO hm) (λL k kp hk=>cx (aio hh (by rw[SC,du];rfl) (by rw[SC,aT];rfl) hk)) (λh=>by cases h) λ_ js D L mp iC jG cg tr hg=> ?_));have eS:fM x 0 D:=⟨p,js,eB,iC,jG,cg⟩;have bS:=Kn.len cg mp;have dZ:=u_ D mp;obtain⟨iD,cG⟩:=hk D eS;obtain⟨Bf,oh⟩:∃Bf:List AV->List aa,∀l,Bf l=H++([aa.cells x.l 26,.cells [iv hour] 3,.cells l 46]++L):=⟨_,λ_=>rfl⟩;have sX:H++[aa.cells x.l 26,.cells [iv hour] 3,.cells [iv 0,iv 0] 46]++L=Bf [iv 0,iv 0]:=by rw[oh,SC]
 obtain⟨N,hN⟩:∃N,N=H.length+3+L.length:=⟨_,rfl⟩;have fP:∀l,(Bf l).length=N:=λl=>by rw[oh,hN];simp;omega
 have b1:∀l (L':List aa),(Bf l++L')[H.length+1]?=some (.cells [iv hour] 3):=λl L'=>by rw[oh,SC,du];rfl
 have b2:∀l (L':List aa),(Bf l++L')[H.length+2]?=some (.cells l 46):=λl L'=>by rw[oh,SC,lf];rfl
 have un:∀l l' (L':List aa),(Bf l++L').set (H.length+2) (.cells l' 46)=Bf l'++L':=λl l' L'=>by rw[oh,SC,fW,oh];simp
 have bn:∀l (L':List aa)(j:Nat),(Bf l++L')[N+j]?=L'[j]?:=λl L' j=>by rw[<- fP l,aX]
 have vQ:∀l (L':List aa)(j:Nat)(y:aa),(Bf l++L').set (N+j) y=Bf l++L'.set j y:=λl L' j y=>by rw[<- fP l,dU]
 rw[sX]at hg⊢;have fE:∀(l:List AV)(L':List aa)(a b:Int)(m:Int),k (.aL [.agg [iv a,iv b],iv m]) H->cF H.length (Bf l++L') (.aL [.agg [iv a,iv b],iv m]) k:=λl L' a b m h=>by
  rw[oh,SC];exact iM hH (Wk.refl _) (by simp[jL,eK,tO]) h
 (try simp only[seval,aj.av,bt,bS,fP]);refine⟨kR x,dZ,?_⟩;cases iR:D.has with
 |false=>
  have hE:fe D=11:=by rw[fe,iR];rfl
  refine ai ?_;simp only[seval,hE,show ((11:Int)!=0)=true from rfl];refine aD ?_;refine ai ?_;simp only[seval,b2,un];refine n_ ?_;simp only[seval,b2];exact fE _ _ 0 0 11 (iD iR)
 |true=>
  have hE:fe D=0:=by rw[fe,iR];rfl
  refine ai ?_;simp only[seval,hE,show ((0:Int)!=0)=false from rfl];refine aD ?_;refine aN ?_;refine ai ?_;simp only[seval,fP];refine ai ?_;simp only[seval,T_,UD,Uj,TP];have pc:(D.l mp).drop 1=.mp mp::((D.l mp).drop 2):=rfl;obtain⟨ts,dW⟩:∃ts,ts=D.aK.zipIdx:=⟨_,rfl⟩;obtain⟨ck,FE⟩:∃ck,ck=D.aK.length:=⟨_,rfl⟩;have wj:∀l (L':List aa),(Bf l++L')[mp]?=some (.obj (.map (ts.map ew).toArray ck)):=λl L'=>by
   have h0:(Bf [iv 0,iv 0])[mp]?=some (setH D.aK):=hg;have aH:mp≠H.length+2:=λe=>by
    have:=b2 [iv 0,iv 0] [];rw[SO,<- e,h0]at this;cases this
   have h1:(Bf l)[mp]?=some (setH D.aK):=by
    have:=un [iv 0,iv 0] l [];rw[SO,SO]at this;rw[<- this,T6 (λe=>aH e.symm)];exact h0
   rw[dW,FE];exact fO h1
  have qf:∀y∈ts,y.2<ck:=λy hy=>by rw[dW]at hy;have:=List.snd_lt_add_of_mem_zipIdx hy;omega
  have CI:(ts.map (·.2)).Nodup:=by rw[dW,show (λy:List Int×Nat=>y.2)=Prod.snd from rfl,List.zipIdx_map_snd];exact List.nodup_range'
  have h4:∀y∈ts,y.1.length=4:=λy hy=>by rw[dW]at hy;exact cg.h4 _ (Eb hy)
  have fD:=O5 ts ck qf;have LF:ts.map (·.1)=D.aK:=by rw[dW,show (λy:List Int×Nat=>y.1)=Prod.fst from rfl,List.zipIdx_map_fst]
  clear dW;refine ai ?_;simp only[seval,fP,bn,pc,wj];obtain⟨j3,eX⟩:∃j3:hO->Array Nat->List aa,∀b sn,j3 b sn=Bf [iv 0,iv 0]++[.cells x.l 76,.cells (D.l mp) 88,.cells b.l 112,.iter mp ck sn ck]:=⟨_,λ_ _=>rfl⟩;have p1:∀b sn (L':List aa),(j3 b sn++L')[H.length+1]?=some (.cells [iv hour] 3):=λb sn L'=>by rw[eX,SC];exact b1 _ _
  have p2:∀b sn (L':List aa),(j3 b sn++L')[N+2]?=some (.cells b.l 112):=λb sn L'=>by rw[eX,SC,bn];rfl
  have p3:∀b sn (L':List aa),(j3 b sn++L')[N+3]?=some (.iter mp ck sn ck):=λb sn L'=>by rw[eX,SC,bn];rfl
  have p3':∀b sn,(j3 b sn)[N+3]?=some (.iter mp ck sn ck):=λb sn=>by have:=p3 b sn [];rwa [SO]at this
  have p4:∀b sn (L':List aa),(j3 b sn++L')[N+4]?=L'[0]?:=λb sn L'=>by rw[eX,SC,bn];rfl
  have pm:∀b sn (L':List aa),(j3 b sn++L')[mp]?=some (.obj (.map (ts.map ew).toArray ck)):=λb sn L'=>by rw[eX,SC];exact wj _ _
  have MY:∀b sn,(j3 b sn)[mp]?=some (.obj (.map (ts.map ew).toArray ck)):=λb sn=>by have:=pm b sn [];rwa [SO]at this
  have s2:∀b sn b' (L':List aa),(j3 b sn++L').set (N+2) (.cells (hO.l b') 112)=j3 b' sn++L':=λb sn b' L'=>by rw[eX,SC,vQ,eX,SC];rfl
  have s3:∀b sn Ny,(j3 b sn).set (N+3) (.iter mp ck Ny ck)=j3 b Ny:=λb sn Ny=>by rw[eX,vQ,eX];rfl
  have pl:∀b sn,(j3 b sn).length=N+4:=λb sn=>by rw[eX];simp[fP]
  have aQ:Bf [AV.val (SF SD 0),AV.val (SF SD 0)]++[.cells x.l 76,.cells (D.l mp) 88,.cells [AV.val (SF SD 0),AV.val (SF SD 0),AV.val (W_ false)] 112,.iter mp ck #[] ck]=j3 ⟨0,0,false⟩ #[]:=by rw[eX];rfl
  rw[aQ];have pj:hour<4:=by omega
  have b4:(0<=(hour:Int)/\(hour:Int)<4)=True:=by simp;omega
  have s46:∀b sn l,(j3 b sn).set (H.length+2) (.cells l 46)=Bf l++[.cells x.l 76,.cells (D.l mp) 88,.cells b.l 112,.iter mp ck sn ck]:=λb sn l=>by rw[eX,un]
  have p46:∀b sn,(j3 b sn)[H.length+2]?=some (.cells [iv 0,iv 0] 46):=λb sn=>by rw[eX,b2]
  have p2':∀b sn,(j3 b sn)[N+2]?=some (.cells (hO.l b) 112):=λb sn=>by have:=p2 b sn [];rwa [SO]at this
  refine cq ?_;refine za (measure λvs:List (List Int×Nat)=>ts.length-vs.length).wf (λvs=>[]) (λvs=>j3 (vP hour (vs.map (·.1))) (vs.map (·.2)).toArray) (λvs=>(vs.map (·.2)).Nodup/\∀y∈vs,y∈ts) [] (λ_ _=>rfl) (by simp) rfl (λ_ _=>by simp[pl]) ⟨by simp,by simp⟩ (λbQ cP vs au R hR=> ?_);refine ai ?_;simp only[seval,p3',MY,s3];refine⟨fD.elim .inl (λh=> .inr (.inl h)),λe he hn=> ?_,λhs=> ?_⟩
  ·obtain⟨y,hy,rfl⟩:∃y∈ts,ew y=e:=(by simpa using he);refine aD ?_;refine aN ?_;refine cq ?_;have sW:=h4 y hy;have J9:(ew y).born=y.2:=rfl;have hlen:(y.1.map iv).length=4:=(by simp[sW]);have Ki:T7 4 [AV.val (SF SD 0),AV.val (SF SD 0),AV.val (SF SD 0),AV.val (SF SD 0)]=[]:=rfl;obtain⟨w,hw⟩:=b9 (xs:=y.1) (i:=hour) (by omega);have LI:y.1.getD hour 0=w:=(by rw[SE,hw];rfl);have LN:y.2∉vs.map (·.2):=(by simpa[ew]using hn);have F1:((vs.map (·.2)).toArray.push y.2)=((vs++[y]).map (·.2)).toArray:=(by simp);have ajN:(vP hour (vs.map (·.1))).add w=vP hour ((vs++[y]).map (·.1)):=by
    unfold vP;rw[TD,ZM];show _=hO.add _ (y.1.getD hour 0);rw[LI]
   have tw:((vs++[y]).map (·.2)).Nodup/\∀z∈vs++[y],z∈ts:=by
    refine⟨?_,λz hz=> ?_⟩
    ·rw[TD,U7];refine⟨au.1,by simp,λa ha b hb=> ?_⟩;simp at hb;subst hb;intro e;subst e;exact LN ha
    ·rcases SR.1 hz with h|h
     ·exact au.2 z h
     ·rw[S8.1 h];exact hy
   have atx:vs.length<ts.length:=by
    have h1:(vs++[y]).Nodup:=Dp _ tw.1;have:=h1.length_le_of_subset tw.2;simp at this;omega
   have rL:ts.length-(vs++[y]).length<ts.length-vs.length:=(by simp;omega);have FX:∀b sn,bI (j3 b sn):=λb sn z hz=>by
    have QT:bI (j3 ⟨0,0,false⟩ #[]):=bQ;rw[pl];rw[eX]at hz;have cK:∀z,z∈j3 ⟨0,0,false⟩ #[]->fb (N+4) z:=λz hz=>by
     have:=QT z hz;rwa [pl]at this
    rcases SR.1 hz with h|h
    ·exact cK z (by rw[eX];exact Tf _ h)
    ·simp only[SK,S0,or_false]at h;rcases h with rfl|rfl|rfl|rfl
     ·exact cK _ (by rw[eX];simp)
     ·exact cK _ (by rw[eX];simp)
     ·intro a ha;simp only[hO.l,SK,S0,or_false]at ha;rcases ha with rfl|rfl|rfl<;>exact .val _
     ·show mp<N+4;have:=eR (MY ⟨0,0,false⟩ #[]);rwa [pl]at this
   refine ai ?_;simp only[seval,p3',MY,s3,pl,p4,J9,Array.back?_push,Qf CI hy,abo,sW,hlen,Ki];refine ai ?_;simp only[seval,p1,p4,b4,kX hw];refine aI ((aip (b:=vP hour (vs.map (·.1))) (v:=w) (i:=N+2) (p2 _ _ _) ?_));rw[s2,ajN,F1];(try simp only[seval]);refine hR _ ⟨vs++[y],rL,tw,?_⟩;exact abY (pE rfl rfl) (by simp only[seval]<;>simp[bu,Wk.refl]) (FX _ _) (by simp[eK])
  ·have mi:vs.Perm ts:=ab8 au.1 CI au.2 λy hy=>by
    have:=hs (ew y) (by simp;exact⟨y.1,y.2,hy,rfl⟩) (qf y hy);simpa[ew]using this
   have Ld:(vs.map (·.1)).Perm D.aK:=by
    have:=mi.map (·.1);rw[LF]at this;exact this
   have aJ:=cG iR _ Ld;generalize zL:vP hour (vs.map (·.1))=bv' at aJ;refine aD ?_;refine bX ?_;refine ai ?_;simp only[seval,p2',p46,s46,hO.l,zL];refine n_ ?_;simp only[seval,b2];exact fE _ _ _ _ 0 aJ
end
open Go.Conc Go.Proofs Go.Gg.Tk
namespace Tk
end Tk
section
variable {lv:Bool}{H:List aa}{k kp:AV->List aa->Prop}
end
open Go.Conc Go.Proofs Go.Gg.Tk
namespace Tk
def Au (out n:Int):Int:=if 0<=n/\(out<0\/n<out)then n else out
def yl (l:List Int):Int:=l.foldl Au (-1)
def uv (aU:List Nat)(i:Nat):List Int:=(SZ i).flatMap λs=>if 1<(fH (aU.getD s 0) 0 16).length then[-1]else fH (aU.getD s 0) 0 16
theorem QF(aU:List Nat)(i:Nat):uv aU (i+1)=uv aU i++(if 1<(fH (aU.getD i 0) 0 16).length then[-1]else fH (aU.getD i 0) 0 16):=by
 unfold uv;rw[Vo,UX];simp
theorem QE(aU:List Nat):∀i,(uv aU i).length<=i
 |0=>by simp[uv]
 |i+1=>by
  have:=QE aU i;rw[QF,SN];split
  ·simp;omega
  ·omega
end Tk
theorem HG{a a' b b':AV}(h1:Wk a a')(h2:Wk b b'):Wk (.aL [a,b]) (.aL [a',b']):=λE v h=>by
 cases h with
 |aL hs h=>
  refine .aL hs λi x e=> ?_
  match i with
  |0=>cases e;exact h1 _ _ (h 0 a rfl)
  |1=>cases e;exact h2 _ _ (h 1 b rfl)
open Go.Conc Go.Proofs Go.Gg.Tk
section
variable {lv:Bool}{H:List aa}{k kp:AV->List aa->Prop}
theorem ah1{x:aj}(hx:x.Ok)(hm:H[0]?=some .main)(hk:∀D,fM x 2 D->(D.has=false->k (.aL [a_ [],iv 11]) H)/\(D.has=true->k (.aL [a_ (uv D.aU x.aB.length),iv 0]) H)):bh true SA 26 H [x.av] k kp:=by
 refine bF (rs:=[.tmp 2,.tmp 3]) (nt:=39) Tryz.f26 λhH hA=> ?_;simp only[bk,SV,aj.av];have hp:=hx.am;have aQ:=hx.dc;obtain⟨p,eB⟩:∃p:Nat,x.am=p:=⟨x.am.toNat,by omega⟩;have bO:x.l=[iv x.first,iv x.hours,iv x.am,dS x.seen,aW x.pieces,aW x.aB]:=rfl;have aT:∀(L:List aa),(H++L)[H.length]?=L[0]?:=λL=>aX H L 0;have bt:x.l.length=6:=rfl;have ej:Ui 6 x.l=x.l:=rfl;refine ak ?_;refine ai ?_;simp only[seval,aT,bt,ej];refine aI ((zt (x:=x) hx eB (fO hm) Ip (λh=>by cases h) λ_ js D L mp iC jG cg tr hg=> ?_));have eS:fM x 2 D:=⟨p,js,eB,iC,jG,cg⟩;have bS:=Kn.len cg mp;have dZ:=u_ D mp;obtain⟨iD,cG⟩:=hk D eS;obtain⟨Y,hY⟩:∃Y:List aa,Y=[aa.cells x.l 26]++L:=⟨_,rfl⟩;obtain⟨B,hB⟩:∃B,B=H++Y:=⟨_,rfl⟩;have sX:H++[aa.cells x.l 26]++L=B:=by rw[hB,hY,SC]
 have zK:∀(L':List aa),(B++L')[H.length]?=some (.cells x.l 26):=λL'=>by rw[hB,hY,SC,aT];rfl
 have bn:∀(L':List aa)(j:Nat),(B++L')[B.length+j]?=L'[j]?:=λL' j=>aX B L' j;have vQ:∀(L':List aa)(j:Nat)(y:aa),(B++L').set (B.length+j) y=B++L'.set j y:=λL' j y=>dU B L' j y;have fE:∀(L':List aa)(ns:List Int)(e:End)(m:Int),k (.aL [a_ ns,iv m]) H->cF H.length (B++L') (.aL [.sl ns.length (ns.map iv) e,iv m]) k:=λL' ns e m h=>by
  rw[hB,SC];exact iM hH (HG (g_ _ _ _) (Wk.refl _)) (by simp[jL,eK,a_,vg]) h
 rw[sX];clear sX hg;(try simp only[seval,aj.av,bt,bS]);refine⟨kR x,dZ,?_⟩;cases iR:D.has with
 |false=>
  have hE:fe D=11:=by rw[fe,iR];rfl
  refine ai ?_;simp only[seval,hE,show ((11:Int)!=0)=true from rfl];refine aD ?_;refine ak ?_;refine aZ ?_;exact fE _ [] .exact 11 (iD iR)
 |true=>
  have hE:fe D=0:=by rw[fe,iR];rfl
  refine ai ?_;simp only[seval,hE,show ((0:Int)!=0)=false from rfl];refine aD ?_;refine aN ?_;refine ak ?_
  (repeat apply iA);refine sK (t:=7) (sz:=1) (el:=3) (by simp only[seval]<;>rfl) ?_
  have nz:T7 5 x.l=[.sl x.aB.length (x.aB.flatMap aC.l) .shut]:=rfl;refine ai ?_;simp only[seval,zK,nz];have BM:∀(L':List aa),(B++L')[B.length+1]?=L'[1]?:=λL'=>bn L' 1;have zd:∀(L':List aa),(B++L')[B.length+2]?=L'[2]?:=λL'=>bn L' 2;have un:∀(L':List aa)(y:aa),(B++L').set (B.length+2) y=B++L'.set 2 y:=λL' y=>vQ L' 2 y;obtain⟨gl,kH⟩:∃gl:Nat->List Int,∀i,gl i=uv D.aU i:=⟨_,λ_=>rfl⟩;have Cy:gl 0=[]:=by rw[kH];rfl
  have KA:∀i,(gl i).length<=i:=λi=>by rw[kH];exact QE _ _
  refine cq ?_;refine gD x.aB.length (λi:Nat=>[(7,.sl (gl i).length ((gl i).map iv) (.opn (B.length+2))),(22,iv i)]) (λi=>B++[.cells x.l 76,.cells (D.l mp) 88,.tail (gl i).length 1 3]) (λi=>True) (λ_ _=>rfl) (by rw[Cy];simp only[seval];simp[bu,Wk.refl]) (by rw[Cy];rfl) (λ_ _ _=>by simp) trivial (λbQ cP i cK _ R hR=> ?_);refine ak ?_;refine aD ?_;refine⟨λh=> ?_,λh=> ?_⟩
  ·have bB:i<x.aB.length:=(by omega);obtain⟨u,hu⟩:=b9 (xs:=D.aU) (i:=i) (by rw[cg.aU];omega);have lu:=cg.lY _ (Tc hu);have b3:(0<=(i:Int)/\(i:Int)<3)=True:=(by simp;omega);have fQ:SD.wrap ((i:Int)+1)=((i+1:Nat):Int):=(by rw[bA _ (by omega)];rfl);have Cu:=Kn.DC cg (mp:=mp) hu;have cQ:gl (i+1)=gl i++(if 1<(fH u 0 16).length then[-1]else fH u 0 16):=by
    rw[kH,kH,QF,SE,hu];rfl
   have KR:=KA i;have fF:=Mr u 0 16;refine aN ?_;refine ak ?_;refine ai ?_;simp only[seval,BM,b3,Cu];refine aI ((Jf lu (by decide) ?_));(try simp only[seval,a_]);refine ak ?_;refine aD ?_;refine⟨λhb=> ?_,λhb=> ?_⟩
   ·refine ai ?_;simp only[seval,z1];(try refine⟨by decide,?_⟩);refine ai ?_;simp only[seval,zd,un];refine⟨by omega,?_⟩;refine ai ?_;simp only[seval,fQ];have ov:1<(fH u 0 16).length:=(by have h2:(1:Int)<((fH u 0 16).length:Int):=(by simpa using hb);omega);rw[if_pos ov]at cQ;refine hR _ ⟨bB,trivial,?_⟩;rw[cQ,TD,SN];exact da
   ·refine aN ?_;refine ai ?_;simp only[seval,zd,un];refine⟨by omega,?_⟩;refine ai ?_;simp only[seval,fQ];have ov:¬1<(fH u 0 16).length:=(by have h2:((fH u 0 16).length:Int)<=1:=(by simpa using hb);omega);rw[if_neg ov]at cQ;refine hR _ ⟨bB,trivial,?_⟩;rw[cQ,TD,SN];exact da
  ·have dx:i=x.aB.length:=(by omega);subst dx;refine bX ?_;refine ak ?_;refine aZ ?_;have aJ:=cG iR;rw[<- kH]at aJ;exact fE _ _ _ 0 aJ
theorem ail{ns:List Int}{e:End}(ik:ns.length<=16)(hk:k (iv (yl ns)) H):bh lv SA 69 H [.sl ns.length (ns.map iv) e] k kp:=by
 refine bF (rs:=[.tmp 2]) (nt:=26) Tryz.f69 λhH hA=> ?_;simp only[bk,SV];refine ak ?_;refine ak ?_;refine ak ?_;refine cq ?_;refine gD ns.length (λi:Nat=>[(3,iv (yl (ns.take i))),(8,iv i)]) (λ_=>_) (λi=>True) (λ_ _=>rfl) (by simp only[seval];simp[bu,Wk.refl];exact Wk.refl _) rfl (λ_ _ _=>rfl) trivial (λbQ cP i cK _ R hR=> ?_);refine ak ?_;refine aD ?_;refine⟨λh=> ?_,λh=> ?_⟩
 ·have bB:i<ns.length:=by omega
  obtain⟨n,hn⟩:=b9 bB;have fQ:SD.wrap ((i:Int)+1)=((i+1:Nat):Int):=by rw[bA _ (by omega)];rfl
  have cQ:yl (ns.take (i+1))=Au (yl (ns.take i)) n:=by
   unfold yl;rw[VL,hn,ZM];rfl
  generalize yl (ns.take i)=o at cQ hR⊢;refine aN ?_;refine ai ?_;simp only[seval,e9 hn,jc bB];by_cases c1:0<=n
  ·have d1:decide (n>=0)=true:=decide_eq_true c1;by_cases c2:o<0
   ·have d2:decide (o<0)=true:=decide_eq_true c2;refine ai ?_;simp only[seval,d1,d2];refine aD ?_;refine ak ?_;refine ai ?_;simp only[seval,fQ];rw[Au,if_pos ⟨c1,.inl c2⟩]at cQ;refine hR _ ⟨bB,trivial,?_⟩;rw[cQ];exact da
   ·have d2:decide (o<0)=false:=decide_eq_false c2;by_cases c3:n<o
    ·have d3:decide (n<o)=true:=decide_eq_true c3;refine ai ?_;simp only[seval,d1,d2,d3];refine aD ?_;refine ak ?_;refine ai ?_;simp only[seval,fQ];rw[Au,if_pos ⟨c1,.inr c3⟩]at cQ;refine hR _ ⟨bB,trivial,?_⟩;rw[cQ];exact da
    ·have d3:decide (n<o)=false:=decide_eq_false c3;refine ai ?_;simp only[seval,d1,d2,d3];refine aD ?_;refine aN ?_;refine ai ?_;simp only[seval,fQ];rw[Au,if_neg (λhc=>hc.2.elim c2 c3)]at cQ;refine hR _ ⟨bB,trivial,?_⟩;rw[cQ];exact da
  ·have d1:decide (n>=0)=false:=decide_eq_false c1;(repeat apply iA);refine afn (by kernel_rfl) ?_;simp only[seval,d1];refine aD ?_;refine aN ?_;refine ai ?_;simp only[seval,fQ];rw[Au,if_neg (λhc=>c1 hc.1)]at cQ;refine hR _ ⟨bB,trivial,?_⟩;rw[cQ];exact da
 ·have:i=ns.length:=by omega
  subst this;refine bX ?_;refine ak ?_;refine aZ ?_;rw[TG];exact bW hk
end
end Go.Gg
