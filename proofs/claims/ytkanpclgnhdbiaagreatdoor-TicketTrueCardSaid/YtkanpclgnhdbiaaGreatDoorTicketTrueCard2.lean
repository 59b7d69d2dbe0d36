/- A part of the proof. -/
import Derived.Test.YtkanpclgnhdbiaaGreatDoorTicketTrueCard1
import Derived.Conc.Beside
import Derived.Conc.CrowdTrace
import Derived.Conc.CrowdComm
set_option linter.all false
set_option maxRecDepth 4000
set_option maxHeartbeats 4000000
open Array renaming getElem?_append_right->X2,getElem?_eq_getElem->SK,getElem?_eq_some_iff->SU,getElem?_map->WG,getElem?_modify->Wl,getElem?_setIfInBounds_ne->SV,getElem?_setIfInBounds_self_of_lt->S_,getElem_mem->XS,mem_append->Us,size_append->XA
open Bool renaming false_eq_true->TN
open Classical renaming byContradiction->Tl
open Go renaming Addr->U3,Code->T7,Deferred->UX,Event->Uo,FuncId->TO,Goroutine->SH,IntKind->TU,LoopState->ab_,MemOp->Wd,Operand->Tm,Program->SJ,ResultVar->UL,Touch->YN,Trace->Uk,Value->SP,World->Tq
open Go.BinOp renaming neq->Wx
open Go.Conc renaming Deaf->UT,Deaf_other->atS,Knows->Wo,QuitsD->Y_,act?_of->ai_,act?_old->X0,deaf_succ->ad_,getElem?_append_cases->Xj,getElem?_stand->X7,heard_old->Ws,knows_own->Zh,lt_of_act?->Wb,lt_size_of_getElem?->TG,mem_ofEvents->TL,mem_of_getElem?->XR,ofEvent_cell0->apH,offersAt_of_not_blocked->UW,offersAt_ph->Zr,served->T4,touch_mute->Z0,touch_of->UV,woken_run->Yk
open Go.Conc.QuitsD renaming status->ZL
open Go.ConcN renaming le_sumTo->WF,sumTo_congr->Vl
open Go.Event renaming mute->WI
open Go.GoStatus renaming blocked->atP
open Go.Goroutine renaming again->Y0
open Go.IntKind renaming i64->SF
open Go.MemAct renaming low_mono->Zo,ofEvent->Tt,touch?->We
open Go.MemAct.mark renaming injEq->al_
open Go.MemOp renaming ofEvents->Ta
open Go.Obj renaming deferred->at0
open Go.Op renaming equal->Xm
open Go.Proofs.Tryz renaming f107->ak_,f109->aj',f89->ao_,f97->atI,prog->SC
open Go.Trace renaming g?->WC
open Go.Value renaming int->SG
open Go.World renaming cell?->Ux,setCell->Xi
open Int renaming toNat->Yu
open List renaming append_assoc->SD,append_nil->S0,cons_append->Vf,drop->UD,drop_append->Vv,drop_append_of_le_length->Wr,drop_drop->af_,drop_eq_getElem_cons->TW,drop_eq_nil_of_le->TS,drop_length->X5,drop_zero->Xx,ext_getElem?->Yo,flatMap_append->VR,flatMap_cons->T9,foldl->ae',foldl_append->ZU,foldl_cons->UR,getD_eq_getElem?_getD->SE,getElem?_append_left->SX,getElem?_append_right->Th,getElem?_drop->Um,getElem?_eq_getElem->SQ,getElem?_eq_some_iff->SM,getElem?_map->To,getElem?_set->UU,getElem?_set_ne->T6,getElem?_set_self->W9,getElem?_take->Uc,getElem_mem->VQ,getLastD_eq_getLast?->Vh,length_append->SO,length_drop->Ul,length_map->Tp,length_set->TQ,map->U6,mapM_cons->T8,mapM_nil->UA,map_append->TF,map_congr_left->VB,map_cons->UP,map_drop->aj_,map_flatMap->Vu,map_map->XW,map_singleton->Zc,map_take->VW,mem_append->SS,mem_append_left->Ti,mem_append_right->S6,mem_cons->SL,mem_flatMap->S5,mem_flatten->XJ,mem_iff_getElem?->UO,mem_map->Td,mem_of_getElem?->Tf,mem_of_mem_take->Wv,mem_or_eq_of_mem_set->UJ,mem_replicate->Xv,mem_singleton->S9,mem_toArray->TJ,nil_append->UF,nodup_append->U5,not_mem_nil->S4,range->SZ,range'->T5,range'_append_1->Za,range'_succ->VP,range_eq_range'->Vo,range_succ->Vk,replicate->TM,replicate_succ->Ww,set_append_left->WB,set_append_right->UN,set_cons_succ->UC,set_cons_zero->TZ,set_set->W8,take->Uq,take_add_one->VI,take_append_drop->Vg,take_append_of_le_length->Tw,take_length->TH,take_of_length_le->SY,take_set->Z9,take_succ->WA,take_succ_cons->U8,take_take->U1,take_zero->an'
open List.Perm renaming refl->af'
open Nat renaming add_sub_cancel->VY,add_sub_cancel_left->US,add_zero->UK,eq_zero_or_pos->UZ,le_of_eq->WJ,le_refl->SR,le_trans->UB,lt_of_lt_of_le->Te,lt_trans->Wp,reduceAdd->SW,strongRecOn->Ym,sub_self->Vd,sub_zero->Z3,zero_add->Wt
open Option renaming bind_eq_bind->TP,getD_some->S8,map_eq_some_iff->Ts,pure_def->Uh,toList_some->YR
open Option.some renaming inj->VX,injEq->Tn
open Prod.mk renaming injEq->U0
namespace Go.Gg
open Go.Conc Go.Proofs Go.Gg.Tk
theorem Jj{α:Type}(g:Nat->List α)(i:Nat):(SZ (i+1)).flatMap g=(SZ i).flatMap g++g i:=by
 rw[Vk,VR];simp
theorem Ji{α:Type}(g:Nat->List α){i n:Nat}(h:i<n):(SZ n).flatMap g=(SZ i).flatMap g++(g i++(T5 (i+1) (n-(i+1))).flatMap g):=by
 have:SZ n=SZ i++(i::T5 (i+1) (n-(i+1))):=by
  rw[Vo,Vo,<- VP];have:=Za (s:=0) (m:=i) (n:=n-(i+1)+1);rw[Wt]at this;rw[this];congr 1;omega
 rw[this,VR,T9]
theorem Nj{α:Type}{l:List α}{i:Nat}{v:α}(h:i<l.length):(l.set i v).take (i+1)=l.take i++[v]:=by
 rw[WA,Z9,UU,if_pos rfl,if_pos h,List.set_eq_of_length_le (by simp;omega)];rfl
namespace Tk
def iU (h:List Int)(hour j:Nat)(n:Int):List Int:=h.take hour++TM j n++h.drop (hour+j)
theorem ED{h:List Int}{hour j:Nat}{n:Int}(hj:hour+j<=h.length):(iU h hour j n).length=h.length:=by simp[iU];omega
theorem aix(h:List Int)(hour:Nat)(n:Int):iU h hour 0 n=h:=by simp[iU]
theorem Ja{h:List Int}{hour j:Nat}{n:Int}(hj:hour+j<h.length):(iU h hour j n).set (hour+j) n=iU h hour (j+1) n:=by
 unfold iU;have hl:(h.take hour++TM j n).length=hour+j:=by simp;omega
 rw[UN _ _ (by omega),hl,Vd,List.replicate_succ'];rw[TW hj,TZ,SD,SD,SD];rfl
theorem aiw{h:List Int}{hour j:Nat}{n:Int}(hn:h[hour]?=some n)(hj:hour+j<=h.length):(iU h hour j n)[hour]?=some n:=by
 have hl:=eR hn;unfold iU;rw[SD,Th (by simp;omega)];have:hour-(h.take hour).length=0:=by simp;omega
 rw[this];cases j with
 |zero=>simpa using hn
 |succ j=>simp[Ww]
theorem aiv{h pre:List Int}{hour:Nat}{n:Int}(h4:h.length=4)(hn:h[hour]?=some n)(hp:pre=h.take (hour+1)):iU h hour (4-hour) n=cq pre:=by
 have hl:=eR hn;have e:pre=h.take hour++[n]:=by rw[hp,WA,hn];rfl
 unfold iU cq;rw[TS (by omega),S0,e];have h1:(h.take hour++[n]).length=hour+1:=by simp;omega
 rw[h1,show (h.take hour++[n]).getLastD 0=n by simp[Vh],SD];congr 1;rw[show 4-hour=(4-(hour+1))+1 by omega,Ww];rfl
theorem abG{h pre:List Int}{hour:Nat}{n:Int}(hn:h[hour]?=some n)(hp:pre=h.take (hour+1)):pre.length=hour+1/\pre.getLastD 0=n:=by
 have hl:=eR hn;have e:pre=h.take hour++[n]:=by rw[hp,WA,hn];rfl
 subst e;exact⟨by simp;omega,by simp[Vh]⟩
end Tk
open Go.Conc Go.Proofs Go.Gg.Tk
section
variable {lv:Bool}
def pV (yv:AV)(N ir it:Nat)(h:List Int):List aa:=[.cells [yv] 130,.cells (h.map iv) 83,.cells [.fn (.func 87) [] [.op ir 0,.op (N+1) 0]] 68,.cells [.fn (.func 89) [] [.op (N+2) 0,.op ir 0,.op (N+1) 0,.op N 0,.op it 0,.op (N+3) 0]] 68]
theorem aii{x:ai}{bh N ir it:Nat}{yv pv:AV}{S:Type}{f:S->List Int->dA S}{Gf:S->List aa}{I:S->Prop}{A:List Int->Prop}(hx:x.Ok)(hY:jN lv SC yv f Gf N I A pv)(hr:∀σ L,(Gf σ++L)[ir]?=some (.cells x.l 76))(ht:∀σ L,(Gf σ++L)[it]?=some (.cells [iv bh] 3))(lP:bh<=3):
  ∀(d hour:Nat)(h pre:List Int)(n0:Int)(σ:S)(M:List aa)(k kp:AV->List aa->Prop),d+hour=x.hours.toNat->h.length=4->h[hour]?=some n0->(0<=n0/\n0<=90+3* hour)->pre=h.take (hour+1)->I σ->(∀a∈mN x bh d pre,A a)->
   (∀h',h'.length=4->h'.take (hour+1)=pre->cW Gf pv k kp (pV yv N ir it h'++M) (bE f (mN x bh d pre) σ))->
   bf lv SC 89 (Gf σ++(pV yv N ir it h++M)) [iv hour,.op (N+2) 0,.op ir 0,.op (N+1) 0,.op N 0,.op it 0,.op (N+3) 0] k kp:=by
 intro d;induction d with
 |zero=>
  intro hour h pre n0 σ M k kp oT h4 ox hb hp hI hA hk;refine bH (rs:=[.tmp 8]) (nt:=61) ao_ λhH ud=> ?_;simp only[br,SW];obtain⟨cO,up⟩:=abG ox hp;have oV:hour<4:=by have:=eR ox;omega
  have Fq:=hx.hours;have bS:x.l=[iv x.first,iv x.hours,iv x.am,dY x.seen,bp x.pieces,bp x.aB]:=rfl;have g0:∀(σ:S)(L:List aa),(Gf σ++L)[N]?=L[0]?:=λσ L=>hY.get σ L 0;have g1:∀(σ:S)(L:List aa),(Gf σ++L)[N+1]?=L[1]?:=λσ L=>hY.get σ L 1;have g2:∀(σ:S)(L:List aa),(Gf σ++L)[N+2]?=L[2]?:=λσ L=>hY.get σ L 2;have s1:∀(σ:S)(L:List aa) x,(Gf σ++L).set (N+1) x=Gf σ++L.set 1 x:=λσ L x=>hY.set σ L 1 x;rw[mN,cO,up,VY]at hA hk;refine aj ?_;refine ak ?_;simp only[seval,g2,pV];refine aK ((PZ (x:=x) (h:=h) (n:=n0) hx h4 ox (hr _ _) (by rw[g1];rfl) ?_));(try simp only[seval]);refine aD ?_;refine⟨λhs=> ?_,λhs=> ?_⟩
  ·refine aj ?_;refine aZ ?_;have:=hk h h4 hp.symm;rw[hs]at this;simp only[TN,if_false,bE,cW]at this;exact bW this
  ·rw[if_pos hs]at hA hk;rw[MZ]at hk;have Rq:(hour:Int)=x.hours:=(by omega);refine aN ?_;refine ak ?_;simp only[seval,hr,bS];refine aD ?_;refine⟨λhc=> ?_,λhc=>by exfalso;simp at hc;omega⟩;refine aj ?_;refine cy ?_;refine gL (4-hour) (λj:Nat=>[(9,iv ((hour+j:Nat):Int))]) (λj=>Gf σ++(pV yv N ir it (iU h hour j n0)++M)) (λj=>True) (λ_ _=>rfl) (by simp only[seval];simp[bz,Wk.refl]) (by rw[aix];rfl) (λm _ _=>by simp[pV]) trivial (λbU cS j oW hj R hR=> ?_);refine aj ?_;refine aD ?_;refine⟨λhc=> ?_,λhc=> ?_⟩
   ·have fi:j<4-hour:=(by omega);have bb:(0<=(hour:Int)/\(hour:Int)<4)=True:=(by simp;omega);have bj:(0<=(hour:Int)+(j:Int)/\(hour:Int)+(j:Int)<4)=True:=(by simp;omega);have Cp:((hour:Int)+(j:Int)).toNat=hour+j:=(by omega);have mb:(iU h hour j n0).length=4:=(by rw[ED (by omega),h4]);have mc:(U6 iv (iU h hour j n0)).length=4:=(by rw[Tp,mb]);have hw:SF.wrap ((hour:Int)+(j:Int)+1)=(hour:Int)+((j+1:Nat):Int):=(by rw[bG _ (by omega)];push_cast;omega);refine aN ?_;refine ak ?_;simp only[seval,g1,s1,pV,bb,bj,Cp,mc,kX (aiw ox (show hour+j<=h.length by omega))];refine⟨by omega,?_⟩;rw[wz (by omega),Ja (by omega)];refine ak ?_;simp only[seval,hw];exact hR _ ⟨fi,trivial,dq⟩
   ·have:j=4-hour:=(by omega);subst this;have FH:=aiv h4 ox hp;rw[FH];have FG:(cq pre).length=4:=(by rw[<- FH,ED (by omega),h4]);have sZ:((cq pre).map iv).length=4:=(by rw[Tp,FG]);have nE:(cq pre).take (hour+1)=pre:=(by unfold cq;rw[Tw (by omega),SY (by omega)]);refine bZ ?_;refine ak ?_;simp only[seval,g0,g1,pV,sZ];rw[SY (i:=4) (l:=(cq pre).map iv) (by rw[sZ];exact SR _)];refine wZ (hY.call σ (cq pre) (pV yv N ir it (cq pre)++M) _ _ hI (hA _ (by simp)) ?_);have aI:=hk (cq pre) FG nE;cases hf:f σ (cq pre)with
    |go σ'=>
     rw[hf]at aI;simp only[cW]at aI⊢;(try simp only[seval]);refine aZ ?_;exact bW aI
    |stop σ'=>
     rw[hf]at aI;simp only[cW]at aI⊢;(try simp only[seval]);refine aZ ?_;exact bW aI
    |bad σ'=>
     rw[hf]at aI;simp only[cW]at aI⊢;exact bW aI
 |succ d ih=>
  intro hour h pre n0 σ M k kp oT h4 ox hb hp hI hA hk;refine bH (rs:=[.tmp 8]) (nt:=61) ao_ λhH ud=> ?_;simp only[br,SW];obtain⟨cO,up⟩:=abG ox hp;have Fq:=hx.hours;have hpr:=hx.am;have Rp:hour<3:=by omega
  have bS:x.l=[iv x.first,iv x.hours,iv x.am,dY x.seen,bp x.pieces,bp x.aB]:=rfl;have g1:∀(σ:S)(L:List aa),(Gf σ++L)[N+1]?=L[1]?:=λσ L=>hY.get σ L 1;have g2:∀(σ:S)(L:List aa),(Gf σ++L)[N+2]?=L[2]?:=λσ L=>hY.get σ L 2;have g3:∀(σ:S)(L:List aa),(Gf σ++L)[N+3]?=L[3]?:=λσ L=>hY.get σ L 3;have s1:∀(σ:S)(L:List aa) x,(Gf σ++L).set (N+1) x=Gf σ++L.set 1 x:=λσ L x=>hY.set σ L 1 x;rw[mN,cO,up,VY]at hA hk;refine aj ?_;refine ak ?_;simp only[seval,g2,pV];refine aK ((PZ (x:=x) (h:=h) (n:=n0) hx h4 ox (hr _ _) (by rw[g1];rfl) ?_));(try simp only[seval]);refine aD ?_;refine⟨λhs=> ?_,λhs=> ?_⟩
  ·refine aj ?_;refine aZ ?_;have:=hk h h4 hp.symm;rw[hs]at this;simp only[TN,if_false,bE,cW]at this;exact bW this
  ·rw[if_pos hs]at hA hk;have Rq:¬(hour:Int)=x.hours:=(by omega);refine aN ?_;refine ak ?_;simp only[seval,hr,bS];refine aD ?_;refine⟨λhc=>by exfalso;exact Rq hc,λhc=> ?_⟩;refine aN ?_;refine ak ?_;simp only[seval,hr,bS,bG (x.am+1) (by omega)];generalize hg:(λn:Nat=>if hour+1=1/\n≠bh then[]else mN x bh d (pre++[n0+(n:Int)]))=g at hA hk;refine cy ?_;refine yH (measure λm:Nat×S×List Int=>(x.am.toNat+1)-m.1).wf (λm=>[(37,iv (m.1:Nat))]) (λm=>Gf m.2.1++(pV yv N ir it m.2.2++M)) (λm=>m.1<=x.am.toNat+1/\bE f ((SZ m.1).flatMap g) σ=.go m.2.1/\m.2.2.length=4/\m.2.2.take (hour+1)=pre) (0,σ,h) (λ_ _=>rfl) (by intro p hp;simp at hp;subst hp;exact⟨_,rfl,Wk.refl _⟩) rfl (λ_ _=>by simp[pV,hY.len]) ⟨by omega,rfl,h4,hp.symm⟩ (λbU cS m az R hR=> ?_);obtain⟨i,τ,hq⟩:=m;obtain⟨hi,bK,zI,zJ⟩:=az;replace hi:i<=x.am.toNat+1:=hi;replace bK:bE f ((SZ i).flatMap g) σ=.go τ:=bK;replace zI:hq.length=4:=zI;replace zJ:hq.take (hour+1)=pre:=zJ;have FM:hq[hour]?=some n0:=by
    have h1:(hq.take (hour+1))[hour]?=some n0:=(by rw[zJ,hp,Uc,if_pos (by omega)];exact ox);rwa [Uc,if_pos (by omega)]at h1
   refine aj ?_;refine aD ?_;refine⟨λhc=> ?_,λhc=> ?_⟩
   ·have bB:i<x.am.toNat+1:=(by omega);have bN:SF.wrap ((i:Int)+1)=((i+1:Nat):Int):=(by rw[bG _ (by omega)];rfl);have rA:=Ji g bB;have s9:=Jj g i;have BU:I τ:=Ap (A:=A) hY.inv _ σ τ (λa ha=>hA a (by rw[rA];exact Ti _ ha)) hI bK;refine aN ?_;refine aj ?_;have hqm:(U6 iv hq).length=4:=(by rw[Tp,zI]);have bb:(0<=(hour:Int)/\(hour:Int)<4)=True:=(by simp;omega);have bb1:(0<=(hour:Int)+1/\(hour:Int)+1<4)=True:=(by simp;omega);have oZ:((hour:Int)+1).toNat=hour+1:=(by omega);have hwh:SF.wrap ((hour:Int)+1)=(hour:Int)+1:=bG _ (by omega);have Lg:SF.wrap (n0+(i:Int))=n0+(i:Int):=bG _ (by omega);refine ak ?_;simp only[seval,ht];refine xg (λh2=> ?ga) (λh2=> ?gb)
    case' ga=>
     (try simp only[seval,ht]);refine aD ?_;refine⟨λh3=> ?gc,λh3=> ?gd⟩
     case gc=>
      have aM:g i=[]:=(by rw[<- hg];exact if_pos ⟨by simp at h2;omega,by omega⟩);refine bZ ?_;refine ak ?_;simp only[seval,bN];exact hR _ ⟨(i+1,τ,hq),(by show x.am.toNat+1-(i+1)<x.am.toNat+1-i;omega),⟨by omega,by rw[s9,aM,S0];exact bK,zI,zJ⟩,dq⟩
    case' gb=>
     (try simp only[seval]);refine aD ?_
    all_goals
     have aM:g i=mN x bh d (pre++[n0+(i:Int)]):=by
      rw[<- hg];refine if_neg ?_
      rintro⟨q1,q2⟩
      first|(simp at h3;omega)|(simp at h2;omega)
     refine aN ?_;refine ak ?_;simp only[seval,g1,s1,pV,bb,bb1,oZ,hwh,Lg,hqm,kX FM];refine⟨by omega,?_⟩;rw[wz (show hour+1<hq.length by omega)];refine ak ?_;simp only[seval,g3,hwh];have akV:(hq.set (hour+1) (n0+(i:Int))).length=4:=(by rw[TQ,zI]);have hqt:pre++[n0+(i:Int)]=(hq.set (hour+1) (n0+(i:Int))).take (hour+1+1):=(by rw[Nj (by omega),zJ]);refine aK ((ih (hour+1) (hq.set (hour+1) (n0+(i:Int))) (pre++[n0+(i:Int)]) (n0+(i:Int)) τ M _ _ (by omega) akV (by rw[UU,if_pos rfl,if_pos (by omega)]) (by omega) hqt BU (λa ha=>hA a (by rw[rA,aM];exact S6 _ (Ti _ ha))) (λh' qU akU=> ?_)));have KT:h'.take (hour+1)=pre:=by
      have e:h'.take (hour+1)=(h'.take (hour+1+1)).take (hour+1):=(by rw[U1];congr 1;omega);rw[e,akU,Tw (WJ cO.symm),SY (WJ cO)]
     have zU:bE f ((SZ (x.am.toNat+1)).flatMap g) σ=match bE f (g i) τ with
       |.go s'=>bE f ((T5 (i+1) (x.am.toNat+1-(i+1))).flatMap g) s'
       |r=>r:=by
      rw[rA,qp,bK];exact qp f (g i) _ τ
     rw[<- aM];cases hf:bE f (g i) τ with
     |go τ'=>
      simp only[cW];(try simp only[seval]);refine aD ?_;refine aN ?_;refine ak ?_;simp only[seval,bN];exact hR _ ⟨(i+1,τ',h'),(by show x.am.toNat+1-(i+1)<x.am.toNat+1-i;omega),⟨by omega,by rw[s9,qp,bK];exact hf,qU,KT⟩,dq⟩
     |stop τ'=>
      simp only[cW];(try simp only[seval]);refine aD ?_;refine aj ?_;refine aZ ?_;have aI:=hk h' qU KT;rw[zU,hf]at aI;exact bW aI
     |bad τ'=>
      simp only[cW];have aI:=hk h' qU KT;rw[zU,hf]at aI;exact bW aI
   ·have dw:i=x.am.toNat+1:=(by omega);subst dw;have aI:=hk hq zI zJ;rw[bK]at aI;refine bZ ?_;refine aj ?_;refine aZ ?_;exact bW aI
theorem uU{P:SJ}{yv pv:AV}{S:Type}{f:S->List Int->dA S}{Gf:S->List aa}{N:Nat}{I:S->Prop}{A:List Int->Prop}{k:AV->List aa->Prop}(hY:jN lv P yv f Gf N I A pv){σ σ':S}{L:List aa}{a:AV}(hH:bP (Gf σ))(ha:∀n,Lt n a)(hk:k a (Gf σ')):cw (Gf σ).length (Gf σ'++L) a k:=by
 refine jR (H':=Gf σ') (Wk.refl _) rfl (by rw[hY.len,hY.len];exact SR _) ?_ (ha _) hk;have:=hY.az (σ:=σ) (M:=[]) (by simpa using hH) σ';simpa using this
theorem I5{H:List aa}{k kp:AV->List aa->Prop}{x:ai}{n:Int}(hk:k (.fn (.func 86) [] [.op H.length 0,.op (H.length+1) 0]) (H++[.cells x.l 76,.cells [iv n] 3])):bf lv SC 64 H [x.av,iv n] k kp:=by
 refine bH (rs:=[.tmp 4]) (nt:=6) Tryz.f64 λhH hA=> ?_;simp only[br,SW,ai.av];refine aj ?_;refine ak ?_;simp only[seval,T8,UA,Uh,TP];refine aZ ?_;exact bW hk
theorem I8{x:ai}{bh N ir it:Nat}{yv pv:AV}{S:Type}{f:S->List Int->dA S}{Gf:S->List aa}{I:S->Prop}{A:List Int->Prop}{σ:S}{k kp:AV->List aa->Prop}(hx:x.Ok)(hY:jN lv SC yv f Gf N I A pv)(hr:∀σ L,(Gf σ++L)[ir]?=some (.cells x.l 76))(ht:∀σ L,(Gf σ++L)[it]?=some (.cells [iv bh] 3))(lP:bh<=3)
  (nF:∀n,Lt n pv) (hI:I σ) (hA:∀a∈jA x bh,A a) (hk:fV Gf pv k kp [] (bE f (jA x bh) σ)):bf lv SC 86 (Gf σ) [yv,.op ir 0,.op it 0] k kp:=by
 refine bH (rs:=[]) (nt:=15) Tryz.f86 λhH ud=> ?_;simp only[br,SW];have hN:=hY.len σ;have bS:x.l=[iv x.first,iv x.hours,iv x.am,dY x.seen,bp x.pieces,bp x.aB]:=rfl;refine ak ?_;simp only[seval,hY.parts];refine aj ?_;refine ak ?_;simp only[seval,T8,UA,Uh,TP];refine aj ?_;refine ak ?_;simp only[seval,T8,UA,Uh,TP];refine ak ?_;simp only[seval,hr,bS];refine aj ?_;have h0:=hx.first;have hh:=hx.hours;have KS:[x.first]=Uq (0+1) [x.first,0,0,0]:=rfl;refine aK (?_);rw[hN];refine aii (x:=x) (bh:=bh) hx hY hr ht lP x.hours.toNat 0 [x.first,0,0,0] [x.first] x.first σ [] _ _ rfl rfl rfl (by omega) KS hI hA (λh' qU zG=> ?_);change cW Gf pv _ _ _ (bE f (jA x bh) σ);have rK:∀n,Lt n (.aJ []):=λn=>by simp[je]
 cases hf:bE f (jA x bh) σ with
 |go s=>
  rw[hf]at hk;simp only[cW,fV]at hk⊢;rw[S0]at hk;(try simp only[seval]);rw[<- hN];exact uU hY hH rK hk
 |stop s=>
  rw[hf]at hk;simp only[cW,fV]at hk⊢;rw[S0]at hk;(try simp only[seval]);rw[<- hN];exact uU hY hH rK hk
 |bad s=>
  rw[hf]at hk;simp only[cW,fV]at hk⊢;rw[S0]at hk;rw[<- hN];exact uU hY hH nF hk
end
theorem Ps{α:Type}{l:List α}{i j:Nat}{v:α}(h:i<j):(l.set i v).drop j=l.drop j:=by
 apply Yo;intro k;rw[Um,Um,T6 (by omega)]
theorem yS{α:Type}{g:α->AV}{xs:List α}{i:Nat}{x:α}(h:xs[i]?=some x):(xs.map g).drop i=g x::(xs.drop (i+1)).map g:=by
 rw[<- aj_,vC h,UP]
namespace Tk
def ac0 (k:Nat):List Int:=TM (4-k) (-1)++[-1, -1, -1]
structure oJ (h:List Int)(k p:Nat)(t:List Nat)(tc:List Int):Prop where
 len:tc.length=11
 pre:tc.take (4+p)=h++t.map λn:Nat=>(n:Int)
 tl:tc.drop (4+k)=ac0 k
theorem oJ.all{h:List Int}{k:Nat}{t:List Nat}{tc:List Int}(ht:t.length=k)(n:oJ h k k t tc):tc=dS h t:=by
 have:=Vg (4+k) tc;rw[n.pre,n.tl]at this;rw[<- this];unfold dS kM ac0;rw[ht];simp[SD]
theorem oJ.back{h:List Int}{k p:Nat}{t:List Nat}{n:Nat}{tc:List Int}(h4:h.length=4)(ht:t.length=p)(q:oJ h k (p+1) (t++[n]) tc):oJ h k p t tc:=by
 refine⟨q.len,?_,q.tl⟩;have e:tc.take (4+p)=(tc.take (4+(p+1))).take (4+p):=by rw[U1];congr 1;omega
 rw[e,q.pre,TF,<- SD,Tw (by simp[h4,ht]),SY (by simp[h4,ht])]
theorem oJ.next{h:List Int}{k p:Nat}{t:List Nat}{n:Nat}{tc:List Int}(hp:p<k)(hk:k<=4)(q:oJ h k p t tc):oJ h k (p+1) (t++[n]) (tc.set (4+p) (n:Int)):=by
 refine⟨by rw[TQ];exact q.len,?_,?_⟩
 ·rw[show 4+(p+1)=(4+p)+1 by omega,Nj (by rw[q.len];omega),q.pre];simp
 ·rw[Ps (by omega)];exact q.tl
theorem ans{h:List Int}{q:Nat}{qs:List Nat}{u:Nat}{t:List Nat}:(kL (q::qs) u t).map (dS h)=(SZ 9).flatMap λn=>if u.testBit n|| !q.testBit n then[]else(kL qs (u|||2^n) (t++[n])).map (dS h):=by
 rw[kL,Vu];congr 1;funext n;split<;>rfl
end Tk
section
variable {lv:Bool}
def tu (yv:AV)(N ir:Nat)(ps:List Nat)(tc:List Int):List aa:=[.cells [yv] 132,.cells (tc.map iv) 86,.cells (ps.map λn=>wv n) 80,.cells [.fn (.func 107) [] [.op ir 0,.op N 0,.op (N+1) 0,.op (N+2) 0,.op (N+3) 0]] 157]
theorem ahA{x:ai}{h ps N ir:_}{yv pv:AV}{S:Type}{f:S->List Int->dA S}{Gf:S->List aa}{I:S->Prop}{A:List Int->Prop}(hx:x.Ok)(h4:h.length=4)(hY:jN lv SC yv f Gf N I A pv)(hr:∀σ L,(Gf σ++L)[ir]?=some (.cells x.l 76))(ru:ps=x.pieces.map (bR h)++TM (4-x.pieces.length) 0):
  ∀(d p u:Nat)(t:List Nat)(tc:List Int)(σ:S)(M:List aa)(k kp:AV->List aa->Prop),d+p=x.pieces.length->u<65536->t.length=p->oJ h x.pieces.length p t tc->I σ->(∀a∈(kL ((x.pieces.map (bR h)).drop p) u t).map (dS h),A a)->
   (∀ek,oJ h x.pieces.length p t ek->cW Gf pv k kp (tu yv N ir ps ek++M) (bE f ((kL ((x.pieces.map (bR h)).drop p) u t).map (dS h)) σ))->
   bf lv SC 107 (Gf σ++(tu yv N ir ps tc++M)) [iv p,wv u,.op ir 0,.op N 0,.op (N+1) 0,.op (N+2) 0,.op (N+3) 0] k kp:=by
 intro d;induction d with
 |zero=>
  intro p u t tc σ M k kp J3 hu ht hT hI hA hk;refine bH (rs:=[.tmp 9]) (nt:=47) ak_ λhH ud=> ?_;simp only[br,SW];have bS:x.l=[iv x.first,iv x.hours,iv x.am,dY x.seen,bp x.pieces,bp x.aB]:=rfl;have g0:∀(σ:S)(L:List aa),(Gf σ++L)[N]?=L[0]?:=λσ L=>hY.get σ L 0;have g1:∀(σ:S)(L:List aa),(Gf σ++L)[N+1]?=L[1]?:=λσ L=>hY.get σ L 1;have cO:p=x.pieces.length:=by omega
  have vR:(x.pieces.map (bR h)).drop p=[]:=TS (by simp;omega);rw[vR,kL]at hA hk;rw[Zc]at hA hk;rw[MZ]at hk;have xP:tc=dS h t:=by subst cO;exact hT.all ht
  have j6:(tc.map iv).length=11:=by rw[Tp,hT.len]
  refine aj ?_;(repeat apply gW);refine Ox ?_;refine ak ?_;simp only[seval,hr,bS,bp];refine aD ?_;refine⟨λhc=> ?_,λhc=>by exfalso;simp at hc;omega⟩;refine ak ?_;simp only[seval,g0,g1,tu,j6];rw[SY (i:=11) (l:=tc.map iv) (by rw[j6];exact SR _)];rw[<- xP]at hA hk;have aI:=hk tc hT;refine wZ (hY.call σ tc (tu yv N ir ps tc++M) _ _ hI (hA _ (by simp)) ?_);cases hf:f σ tc with
  |go σ'=>
   rw[hf]at aI;simp only[cW]at aI⊢;(try simp only[seval]);refine aZ ?_;exact bW aI
  |stop σ'=>
   rw[hf]at aI;simp only[cW]at aI⊢;(try simp only[seval]);refine aZ ?_;exact bW aI
  |bad σ'=>
   rw[hf]at aI;simp only[cW]at aI⊢;exact bW aI
 |succ d ih=>
  intro p u t tc σ M k kp J3 hu ht hT hI hA hk;refine bH (rs:=[.tmp 9]) (nt:=47) ak_ λhH ud=> ?_;simp only[br,SW];have bS:x.l=[iv x.first,iv x.hours,iv x.am,dY x.seen,bp x.pieces,bp x.aB]:=rfl;have g1:∀(σ:S)(L:List aa),(Gf σ++L)[N+1]?=L[1]?:=λσ L=>hY.get σ L 1;have g2:∀(σ:S)(L:List aa),(Gf σ++L)[N+2]?=L[2]?:=λσ L=>hY.get σ L 2;have g3:∀(σ:S)(L:List aa),(Gf σ++L)[N+3]?=L[3]?:=λσ L=>hY.get σ L 3;have s1:∀(σ:S)(L:List aa) x,(Gf σ++L).set (N+1) x=Gf σ++L.set 1 x:=λσ L x=>hY.set σ L 1 x;have mh:=hx.c9;have FG:p<4:=by omega
  obtain⟨y,hy⟩:=bX (xs:=x.pieces) (i:=p) (by omega);have uB:(x.pieces.map (bR h))[p]?=some (bR h y):=by rw[To,hy];rfl
  have iq:ps[p]?=some (bR h y):=by rw[ru,SX (by simp;omega)];exact uB
  have kF:bR h y<65536:=Wp (P8 h y) (by decide);have aE:¬(p:Int)=(x.pieces.length:Int):=by omega
  rw[vC uB,ans]at hA hk;generalize hg:(λn=>if u.testBit n|| !(bR h y).testBit n then[]else(kL ((x.pieces.map (bR h)).drop (p+1)) (u|||2^n) (t++[n])).map (dS h))=g at hA hk;refine aj ?_;(repeat apply gW);refine Ox ?_;refine ak ?_;simp only[seval,hr,bS,bp];refine aD ?_;refine⟨λhc=>by exfalso;exact aE (by simpa using hc),λhc=> ?_⟩;refine aN ?_;(repeat apply gW);refine Oq ?_;simp only[seval];refine aj ?_;refine cy ?_;refine yH (measure λm:Nat×S×List Int=>9-m.1).wf (λm=>[(20,iv (m.1:Nat))]) (λm=>Gf m.2.1++(tu yv N ir ps m.2.2++M)) (λm=>m.1<=9/\bE f ((SZ m.1).flatMap g) σ=.go m.2.1/\oJ h x.pieces.length p t m.2.2) (0,σ,tc) (λ_ _=>rfl) (by intro p hp;simp at hp;subst hp;exact⟨_,rfl,Wk.refl _⟩) rfl (λ_ _=>by simp[tu,hY.len]) ⟨by omega,rfl,hT⟩ (λbU cS m az R hR=> ?_);obtain⟨i,τ,tq⟩:=m;obtain⟨hi,bK,lH⟩:=az;replace hi:i<=9:=hi;replace bK:bE f ((SZ i).flatMap g) σ=.go τ:=bK;replace lH:oJ h x.pieces.length p t tq:=lH;refine aj ?_;refine aD ?_;refine⟨λhc=> ?_,λhc=> ?_⟩
  ·have bB:i<9:=(by omega);have bN:SF.wrap ((i:Int)+1)=((i+1:Nat):Int):=(by rw[bG _ (by omega)];rfl);have rA:=Ji g bB;have s9:=Jj g i;have BU:I τ:=Ap (A:=A) hY.inv _ σ τ (λa ha=>hA a (by rw[rA];exact Ti _ ha)) hI bK;have b4:(0<=(p:Int)/\(p:Int)<4)=True:=(by simp;omega);have Dm:(u.testBit i|| !(bR h y).testBit i)=true->g i=[]:=λe=>(by rw[<- hg];exact if_pos e);have Jr:(u.testBit i|| !(bR h y).testBit i)=false->g i=(kL ((x.pieces.map (bR h)).drop (p+1)) (u|||2^i) (t++[i])).map (dS h):=λe=>(by rw[<- hg];exact if_neg (by rw[e];simp));refine aN ?_;refine aj ?_;refine ak ?_;simp only[seval,g2,tu,b4,yS iq];refine aK ((xc hu ?_));(try simp only[seval,g2,tu,b4,yS iq]);refine xg (λh2=> ?_) (λh2=> ?_)
   ·(try simp only[seval,g2,tu,b4,yS iq]);refine aK ((xc kF ?_));(try simp only[seval]);refine aD ?_;refine⟨λh3=> ?_,λh3=> ?_⟩
    ·have aM:=Dm (by rw[h2];simpa using h3);refine bZ ?_;refine ak ?_;simp only[seval,bN];exact hR _ ⟨(i+1,τ,tq),(by show 9-(i+1)<9-i;omega),⟨by omega,by rw[s9,aM,S0];exact bK,lH⟩,dq⟩
    ·have aM:=Jr (by rw[h2];simpa using h3);have j6:(tq.map iv).length=11:=(by rw[Tp,lH.len]);have Ij:4+p<tq.length:=(by rw[lH.len];omega);have F2:SF.wrap ((p:Int)+1)=((p+1:Nat):Int):=(by rw[bG _ (by omega)];rfl);refine aN ?_;refine ak ?_;simp only[seval,g1,s1,tu,b4];refine⟨by omega,?_⟩;rw[wz Ij];refine dT 6 ?_;simp only[seval,g3,F2];refine ii (wv (u|||2^i)) (cI (ub hu (show i<16 by omega) ⟨rfl,rfl⟩)) ?_;rw[F2];have kG:u|||2^i<65536:=pn hu (wE (by omega));refine aK ((ih (p+1) (u|||2^i) (t++[i]) (tq.set (4+p) (i:Int)) τ M _ _ (by omega) kG (by simp[ht]) (lH.next (by omega) mh) BU (λa ha=>hA a (by rw[rA,aM];exact S6 _ (Ti _ ha))) (λek sK=> ?_)));have BX:=sK.back h4 ht;have zU:bE f ((SZ 9).flatMap g) σ=match bE f (g i) τ with
       |.go s'=>bE f ((T5 (i+1) (9-(i+1))).flatMap g) s'
       |r=>r:=by
      rw[rA,qp,bK];exact qp f (g i) _ τ
     rw[<- aM];have aI:=hk ek BX;rw[zU]at aI;cases hf:bE f (g i) τ with
     |go τ'=>
      simp only[cW];(try simp only[seval]);refine aD ?_;refine aN ?_;refine ak ?_;simp only[seval,bN];exact hR _ ⟨(i+1,τ',ek),(by show 9-(i+1)<9-i;omega),⟨by omega,by rw[s9,qp,bK];exact hf,BX⟩,dq⟩
     |stop τ'=>
      rw[hf]at aI;simp only[cW]at aI⊢;(try simp only[seval]);refine aD ?_;refine aj ?_;refine aZ ?_;exact bW aI
     |bad τ'=>
      rw[hf]at aI;simp only[cW]at aI⊢;exact bW aI
   ·(try simp only[seval]);refine aD ?_;have aM:=Dm (by rw[show u.testBit i=true by simpa using h2];rfl);refine bZ ?_;refine ak ?_;simp only[seval,bN];exact hR _ ⟨(i+1,τ,tq),(by show 9-(i+1)<9-i;omega),⟨by omega,by rw[s9,aM,S0];exact bK,lH⟩,dq⟩
  ·have dw:i=9:=(by omega);subst dw;have aI:=hk tq lH;rw[bK]at aI;refine bZ ?_;refine aj ?_;refine aZ ?_;exact bW aI
end
open Go.Conc Go.Proofs Go.Gg.Tk
theorem M7{α:Type}{g:α->AV}{xs:List α}{i:Nat}{y:α}(h:i<xs.length):(xs.map g).take i++[g y]++(xs.map g).drop (i+1)=(xs.set i y).map g:=by
 rw[List.map_set,List.set_eq_take_append_cons_drop,if_pos (by simpa using h)];simp
namespace Tk
def pF (l:List Nat)(i:Nat):List Nat:=l.take i++TM (4-i) 0
theorem afP{l:List Nat}{i q:Nat}(h:l[i]?=some q)(hl:l.length<=4):(pF l i).set i q=pF l (i+1):=by
 have hi:=eR h;unfold pF;rw[UN _ _ (by simp;omega),show i-(l.take i).length=0 by simp;omega,show 4-i=(4-(i+1))+1 by omega,Ww,TZ,WA,h];simp
theorem afO{l:List Nat}{i:Nat}(hi:i<=l.length)(hl:l.length<=4):(pF l i).length=4:=by simp[pF];omega
theorem afN{l:List Nat}:pF l l.length=l++TM (4-l.length) 0:=by simp[pF]
end Tk
theorem R6{H L:List aa}{c c':aa}(h:bP (H++(L++[c])))(hc:∀n,eV n c'):bP (H++(L++[c'])):=λz hz=>by
 have hl:(H++(L++[c'])).length=(H++(L++[c])).length:=by simp
 rw[hl];rcases SS.1 hz with h'|h'
 ·exact h z (Ti _ h')
 ·rcases SS.1 h' with h'|h'
  ·exact h z (S6 _ (Ti _ h'))
  ·rw[S9.1 h'];exact hc _
theorem abp(l:List Nat)(t n:Nat):eV n (.cells (l.map λn=>wv n) t):=by
 intro a ha;obtain⟨x,_,rfl⟩:=Td.1 ha;exact .val _
theorem anH(l:List Int)(t n:Nat):eV n (.cells (l.map iv) t):=by
 intro a ha;obtain⟨x,_,rfl⟩:=Td.1 ha;exact .val _
section
variable {lv:Bool}
theorem aij{H:List aa}{k kp:AV->List aa->Prop}{x:ai}{h:List Int}(hk:k (.fn (.func 106) [] [.op (H.length+1) 0,.op H.length 0]) (H++[.cells x.l 76,.cells (h.map iv) 83])):bf lv SC 92 H [x.av,.agg (h.map iv)] k kp:=by
 refine bH (rs:=[.tmp 4]) (nt:=6) Tryz.f92 λhH hA=> ?_;simp only[br,SW,ai.av];refine aj ?_;refine ak ?_;simp only[seval,T8,UA,Uh,TP];refine aZ ?_;exact bW hk
theorem ahz{x:ai}{h:List Int}{N ir ih:Nat}{yv pv:AV}{S:Type}{f:S->List Int->dA S}{Gf:S->List aa}{I:S->Prop}{A:List Int->Prop}{σ:S}{k kp:AV->List aa->Prop}(hx:x.Ok)(hh:mB h)(hY:jN lv SC yv f Gf N I A pv)(hr:∀σ L,(Gf σ++L)[ir]?=some (.cells x.l 76))(hi:∀σ L,(Gf σ++L)[ih]?=some (.cells (h.map iv) 83))
  (nF:∀n,Lt n pv) (hI:I σ) (hA:∀a∈(fS x h).map (dS h),A a) (hk:fV Gf pv k kp [] (bE f ((fS x h).map (dS h)) σ)):bf lv SC 106 (Gf σ) [yv,.op ih 0,.op ir 0] k kp:=by
 refine bH (rs:=[]) (nt:=45) Tryz.f106 λhH ud=> ?_;simp only[br,SW];have hN:=hY.len σ;have mh:=hx.c9;have bS:x.l=[iv x.first,iv x.hours,iv x.am,dY x.seen,bp x.pieces,bp x.aB]:=rfl;obtain⟨a,b,c,d,rfl,ha,hb,hc,hd,hs⟩:=hh.out;have okH:∀L:List aa,(∀z∈L,∀n,eV n z)->bP (Gf σ++L):=λL hL z hz=>by
  rcases SS.1 hz with h|h
  ·exact(hH z h).mono (by simp)
  ·exact hL z h _
 refine ak ?_;simp only[seval,hY.parts];refine ak ?_;simp only[seval,hi];refine aj ?_;refine cy ?_;refine gL 4 (λi:Nat=>[(13,iv i)]) (λi=>Gf σ++[.cells [yv] 132,.cells ((iU [a,b,c,d,0,0,0,0,0,0,0] 4 i (-1)).map iv) 86]) (λi=>True) (λ_ _=>rfl) (by simp only[seval];simp[bz,Wk.refl]) rfl (λ_ _ _=>by simp) trivial (λbU cS i cM _ R hR=> ?_);refine aj ?_;refine aD ?_;refine⟨λhc=> ?_,λhc=> ?_⟩
 ·have bB:i<4:=by omega
  have b4:(0<=(i:Int)/\(i:Int)<4)=True:=by simp;omega
  have bN:SF.wrap ((i:Int)+1)=((i+1:Nat):Int):=by rw[bG _ (by omega)];rfl
  have mb:(iU [a,b,c,d,0,0,0,0,0,0,0] 4 i (-1)).length=11:=ED (by show 4+i<=11;omega);have mc:((iU [a,b,c,d,0,0,0,0,0,0,0] 4 i (-1)).map iv).length=11:=by rw[Tp,mb]
  refine aN ?_;refine aj ?_;refine ak ?_;simp only[seval,b4,mc];refine⟨by omega,?_⟩;rw[wz (show 4+i<(iU [a,b,c,d,0,0,0,0,0,0,0] 4 i (-1)).length by omega),Ja (by show 4+i<11;omega)];refine ak ?_;simp only[seval,bN];exact hR _ ⟨bB,trivial,dq⟩
 have:i=4:=by omega
 subst this;clear hc cM;refine bZ ?_;refine aj ?_;rw[show iU [a,b,c,d,0,0,0,0,0,0,0] 4 4 (-1)=[a,b,c,d, -1, -1, -1, -1,0,0,0]from rfl];refine cy ?_;refine gL 3 (λi:Nat=>[(20,iv i)]) (λi=>Gf σ++[.cells [yv] 132,.cells ((iU [a,b,c,d, -1, -1, -1, -1,0,0,0] 8 i (-1)).map iv) 86]) (λi=>True) (λ_ _=>rfl) (by simp only[seval];simp[bz,Wk.refl]) rfl (λ_ _ _=>by simp) trivial (λbU cS i cM _ R hR=> ?_);refine aj ?_;refine aD ?_;refine⟨λhc=> ?_,λhc=> ?_⟩
 ·have bB:i<3:=by omega
  have b4:(0<=(i:Int)/\(i:Int)<3)=True:=by simp;omega
  have bN:SF.wrap ((i:Int)+1)=((i+1:Nat):Int):=by rw[bG _ (by omega)];rfl
  have mb:(iU [a,b,c,d, -1, -1, -1, -1,0,0,0] 8 i (-1)).length=11:=ED (by show 8+i<=11;omega);have mc:((iU [a,b,c,d, -1, -1, -1, -1,0,0,0] 8 i (-1)).map iv).length=11:=by rw[Tp,mb]
  refine aN ?_;refine aj ?_;refine ak ?_;simp only[seval,b4,mc];refine⟨by omega,?_⟩;rw[wz (show 8+i<(iU [a,b,c,d, -1, -1, -1, -1,0,0,0] 8 i (-1)).length by omega),Ja (by show 8+i<11;omega)];refine ak ?_;simp only[seval,bN];exact hR _ ⟨bB,trivial,dq⟩
 have:i=3:=by omega
 subst this;clear hc cM;refine bZ ?_;rw[show iU [a,b,c,d, -1, -1, -1, -1,0,0,0] 8 3 (-1)=[a,b,c,d, -1, -1, -1, -1, -1, -1, -1]from rfl];refine aj ?_;refine ak ?_;simp only[seval,hr,bS,bp];refine cy ?_;refine gL x.pieces.length (λi:Nat=>[(31,iv i)]) (λi=>Gf σ++[.cells [yv] 132,.cells ([a,b,c,d, -1, -1, -1, -1, -1, -1, -1].map iv) 86,.cells ((pF (x.pieces.map (bR [a,b,c,d])) i).map λn=>wv n) 80]) (λi=>True) (λ_ _=>rfl) (by simp only[seval];simp[bz,Wk.refl]) rfl (λ_ _ _=>by simp) trivial (λbU cS i cM _ R hR=> ?_);refine aj ?_;refine aD ?_;refine⟨λhc=> ?_,λhc=> ?_⟩
 ·have bB:i<x.pieces.length:=by omega
  obtain⟨y,hy⟩:=bX bB;have uB:(x.pieces.map (bR [a,b,c,d]))[i]?=some (bR [a,b,c,d] y):=by rw[To,hy];rfl
  have b4:(0<=(i:Int)/\(i:Int)<4)=True:=by simp;omega
  have bN:SF.wrap ((i:Int)+1)=((i+1:Nat):Int):=by rw[bG _ (by omega)];rfl
  have cL:(pF (x.pieces.map (bR [a,b,c,d])) i).length=4:=afO (by simp;omega) (by simpa using mh);have vP:((pF (x.pieces.map (bR [a,b,c,d])) i).map λn=>wv n).length=4:=by rw[Tp,cL]
  refine aN ?_;refine ak ?_;simp only[seval,G7 hy,jp bB];refine ak ?_;simp only[seval,hi,b4];refine aK ((EC (h:=[a,b,c,d]) (y:=y) hh ?_));(try simp only[seval,b4,vP]);refine⟨by omega,?_⟩;rw[M7 (g:=λn=>wv n) (show i<(pF (x.pieces.map (bR [a,b,c,d])) i).length by omega),afP uB (by simpa using mh)];refine ak ?_;simp only[seval,bN];exact hR _ ⟨bB,trivial,Ao (pf rfl rfl) (by simp only[seval];simp[bz,Wk.refl]) (R6 (L:=[_,_]) bU (abp _ _)) (by simp[eI])⟩
 have:i=x.pieces.length:=by omega
 subst this;clear hc cM;refine bZ ?_;refine aj ?_;refine ak ?_;simp only[seval,T8,UA,Uh,TP];refine aj ?_;have ru:pF (x.pieces.map (bR [a,b,c,d])) x.pieces.length=x.pieces.map (bR [a,b,c,d])++TM (4-x.pieces.length) 0:=by
  have:=afN (l:=x.pieces.map (bR [a,b,c,d]));simpa using this
 refine aK (?_);rw[hN];have rK:∀n,Lt n (.aJ []):=λn=>by simp[je]
 have hT0:∀ek,oJ [a,b,c,d] x.pieces.length 0 [] ek->True:=λ_ _=>trivial;refine ahA (x:=x) (h:=[a,b,c,d]) hx rfl hY hr ru x.pieces.length 0 0 [] [a,b,c,d, -1, -1, -1, -1, -1, -1, -1] σ [] _ _ rfl (by decide) rfl ⟨rfl,rfl,?_⟩ hI hA (λek sK=> ?_)
 ·have:x.pieces.length=0\/x.pieces.length=1\/x.pieces.length=2\/x.pieces.length=3\/x.pieces.length=4:=by omega
  rcases this with e|e|e|e|e<;>rw[e]<;>rfl
 change cW Gf pv _ _ _ (bE f ((fS x [a,b,c,d]).map (dS [a,b,c,d])) σ);cases hf:bE f ((fS x [a,b,c,d]).map (dS [a,b,c,d])) σ with
 |go s=>
  rw[hf]at hk;simp only[cW,fV]at hk⊢;rw[S0]at hk;(try simp only[seval]);rw[<- hN];exact uU hY hH rK hk
 |stop s=>
  rw[hf]at hk;simp only[cW,fV]at hk⊢;rw[S0]at hk;(try simp only[seval]);rw[<- hN];exact uU hY hH rK hk
 |bad s=>
  rw[hf]at hk;simp only[cW,fV]at hk⊢;rw[S0]at hk;rw[<- hN];exact uU hY hH nF hk
end
open Go.Conc Go.Proofs Go.Gg.Tk
namespace Tk
structure nW (h:List Int)(ns:List Nat)(k s:Nat)(o:List Nat)(tc:List Int):Prop where
 len:tc.length=11
 pre:tc.take (8+s)=h++kM 4 ns++o.map λn:Nat=>(n:Int)
 tl:tc.drop (8+k)=TM (3-k) (-1)
theorem nW.all{h:List Int}{ns:List Nat}{k:Nat}{o:List Nat}{tc:List Int}(ho:o.length=k)(n:nW h ns k k o tc):tc=db h ns o:=by
 have:=Vg (8+k) tc;rw[n.pre,n.tl]at this;rw[<- this];unfold db
 conv=>rhs;unfold kM
 rw[ho,SD];rfl
theorem Ak{k:Nat}{l:List Nat}(h:l.length<=k):(kM k l).length=k:=by simp[kM];omega
theorem nW.back{h:List Int}{ns:List Nat}{k s:Nat}{o:List Nat}{n:Nat}{tc:List Int}(h4:h.length=4)(hn:ns.length<=4)(ho:o.length=s)(q:nW h ns k (s+1) (o++[n]) tc):nW h ns k s o tc:=by
 refine⟨q.len,?_,q.tl⟩;have e:tc.take (8+s)=(tc.take (8+(s+1))).take (8+s):=by rw[U1];congr 1;omega
 have hp:=Ak hn;rw[e,q.pre,TF,<- SD,Tw (by simp[h4,ho,hp];omega),SY (by simp[h4,ho,hp];omega)]
theorem nW.next{h:List Int}{ns:List Nat}{k s:Nat}{o:List Nat}{n:Nat}{tc:List Int}(hp:s<k)(hk:k<=3)(q:nW h ns k s o tc):nW h ns k (s+1) (o++[n]) (tc.set (8+s) (n:Int)):=by
 refine⟨by rw[TQ];exact q.len,?_,?_⟩
 ·rw[show 8+(s+1)=(8+s)+1 by omega,Nj (by rw[q.len];omega),q.pre];simp
 ·rw[Ps (by omega)];exact q.tl
theorem nW.num{h:List Int}{ns:List Nat}{k s p:Nat}{o:List Nat}{tc:List Int}(h4:h.length=4)(hn:ns.length<=4)(hp:p<ns.length)(q:nW h ns k s o tc):tc[4+p]?=some ((ns.getD p 0:Nat):Int):=by
 have h1:(tc.take (8+s))[4+p]?=some ((ns.getD p 0:Nat):Int):=by
  rw[q.pre,SD,Th (by omega),h4,show 4+p-4=p by omega,SX (by rw[Ak hn];omega)];unfold kM;rw[SX (by simpa using hp),To,SE,SQ hp];rfl
 rwa [Uc,if_pos (by omega)]at h1
theorem anU{h:List Int}{ns:List Nat}{k q:Nat}{qs:List Nat}{u:Nat}{o:List Nat}:(mv k ns (q::qs) u o).map (db h ns)=(SZ k).flatMap λp=>if u.testBit p|| !q.testBit (ns.getD p 0)then[]else(mv k ns qs (u|||2^p) (o++[p])).map (db h ns):=by
 rw[mv,Vu];congr 1;funext n;split<;>rfl
end Tk
open Go.Conc Go.Proofs Go.Gg.Tk
section
variable {lv:Bool}
def yc (yv:AV)(N ir it is:Nat):List aa:=[.cells [yv] 132,.cells [.fn (.func 109) [] [.op ir 0,.op N 0,.op it 0,.op is 0,.op (N+1) 0]] 157]
theorem ahC{x:ai}{h:List Int}{ns qs:List Nat}{N ir it is:Nat}{yv pv:AV}{S:Type}{f:S->List Int->dA S}{Gf:List Int->S->List aa}{I:S->Prop}{A:List Int->Prop}(hx:x.Ok)(h4:h.length=4)(i_:ns.length=x.pieces.length)(hY:∀tc,jN lv SC yv f (Gf tc) N I A pv)(hr:∀tc σ L,(Gf tc σ++L)[ir]?=some (.cells x.l 76))
  (ht:∀tc σ L,(Gf tc σ++L)[it]?=some (.cells (tc.map iv) 86)) (dR:∀tc ek σ L,(Gf tc σ++L).set it (.cells (ek.map iv) 86)=Gf ek σ++L) (hs:∀tc σ L,(Gf tc σ++L)[is]?=some (.cells (qs.map λn=>wv n) 81)) (zK:∃r,qs=x.aB.map (bR h)++r) (xL:qs.length=3):
  ∀(d s u:Nat)(o:List Nat)(tc:List Int)(σ:S)(M:List aa)(k kp:AV->List aa->Prop),d+s=x.aB.length->u<65536->o.length=s->nW h ns x.aB.length s o tc->I σ->(∀a∈(mv x.pieces.length ns ((x.aB.map (bR h)).drop s) u o).map (db h ns),A a)->
   (∀ek,nW h ns x.aB.length s o ek->cW (Gf ek) pv k kp (yc yv N ir it is++M) (bE f ((mv x.pieces.length ns ((x.aB.map (bR h)).drop s) u o).map (db h ns)) σ))->
   bf lv SC 109 (Gf tc σ++(yc yv N ir it is++M)) [iv s,wv u,.op ir 0,.op N 0,.op it 0,.op is 0,.op (N+1) 0] k kp:=by
 intro d;induction d with
 |zero=>
  intro s u o tc σ M k kp oU hu ho hT hI hA hk;refine bH (rs:=[.tmp 9]) (nt:=54) aj' λhH ud=> ?_;simp only[br,SW];have bS:x.l=[iv x.first,iv x.hours,iv x.am,dY x.seen,bp x.pieces,bp x.aB]:=rfl;have g0:∀(tc:List Int)(σ:S)(L:List aa),(Gf tc σ++L)[N]?=L[0]?:=λtc σ L=>(hY tc).get σ L 0;have cO:s=x.aB.length:=by omega
  have vR:(x.aB.map (bR h)).drop s=[]:=TS (by simp;omega);rw[vR,mv]at hA hk;rw[Zc]at hA hk;rw[MZ]at hk;have xP:tc=db h ns o:=by subst cO;exact hT.all ho
  have j6:(tc.map iv).length=11:=by rw[Tp,hT.len]
  refine aj ?_;refine ak ?_;simp only[seval,hr,bS,bp];refine aD ?_;refine⟨λhc=> ?_,λhc=>by exfalso;simp at hc;omega⟩;refine ak ?_;simp only[seval,g0,ht,yc,j6];rw[SY (i:=11) (l:=tc.map iv) (by rw[j6];exact SR _)];rw[<- xP]at hA hk;have aI:=hk tc hT;refine wZ ((hY tc).call σ tc (yc yv N ir it is++M) _ _ hI (hA _ (by simp)) ?_);cases hf:f σ tc with
  |go σ'=>
   rw[hf]at aI;simp only[cW]at aI⊢;(try simp only[seval]);refine aZ ?_;exact bW aI
  |stop σ'=>
   rw[hf]at aI;simp only[cW]at aI⊢;(try simp only[seval]);refine aZ ?_;exact bW aI
  |bad σ'=>
   rw[hf]at aI;simp only[cW]at aI⊢;exact bW aI
 |succ d ihd=>
  intro s u o tc σ M k kp oU hu ho hT hI hA hk;refine bH (rs:=[.tmp 9]) (nt:=54) aj' λhH ud=> ?_;simp only[br,SW];have bS:x.l=[iv x.first,iv x.hours,iv x.am,dY x.seen,bp x.pieces,bp x.aB]:=rfl;have g1:∀(tc:List Int)(σ:S)(L:List aa),(Gf tc σ++L)[N+1]?=L[1]?:=λtc σ L=>(hY tc).get σ L 1;have mh:=hx.c9;have xN:=hx.eK;obtain⟨y,hy⟩:=bX (xs:=x.aB) (i:=s) (by omega);have uB:(x.aB.map (bR h))[s]?=some (bR h y):=by rw[To,hy];rfl
  have iq:qs[s]?=some (bR h y):=by obtain⟨r,e⟩:=zK;rw[e,SX (by simp;omega)];exact uB
  have kF:bR h y<65536:=Wp (P8 h y) (by decide);have aE:¬(s:Int)=(x.aB.length:Int):=by omega
  rw[vC uB,anU]at hA hk;generalize hg:(λp=>if u.testBit p|| !(bR h y).testBit (ns.getD p 0)then[]else(mv x.pieces.length ns ((x.aB.map (bR h)).drop (s+1)) (u|||2^p) (o++[p])).map (db h ns))=g at hA hk;refine aj ?_;refine ak ?_;simp only[seval,hr,bS,bp];refine aD ?_;refine⟨λhc=>by exfalso;exact aE (by simpa using hc),λhc=> ?_⟩;refine aN ?_;refine ak ?_;simp only[seval,hr,bS,bp];refine cy ?_;refine yH (measure λm:Nat×S×List Int=>x.pieces.length-m.1).wf (λm=>[(24,iv (m.1:Nat))]) (λm=>Gf m.2.2 m.2.1++(yc yv N ir it is++M)) (λm=>m.1<=x.pieces.length/\bE f ((SZ m.1).flatMap g) σ=.go m.2.1/\nW h ns x.aB.length s o m.2.2) (0,σ,tc) (λ_ _=>rfl) (by intro p hp;simp at hp;subst hp;exact⟨_,rfl,Wk.refl _⟩) rfl (λ_ _=>by simp[yc,(hY _).len]) ⟨by omega,rfl,hT⟩ (λbU cS m az R hR=> ?_);obtain⟨i,τ,tq⟩:=m;obtain⟨hi,bK,lH⟩:=az;replace hi:i<=x.pieces.length:=hi;replace bK:bE f ((SZ i).flatMap g) σ=.go τ:=bK;replace lH:nW h ns x.aB.length s o tq:=lH;refine aj ?_;refine aD ?_;refine⟨λhc=> ?_,λhc=> ?_⟩
  ·have bB:i<x.pieces.length:=(by omega);have bN:SF.wrap ((i:Int)+1)=((i+1:Nat):Int):=(by rw[bG _ (by omega)];rfl);have hws:SF.wrap ((s:Int)+1)=((s+1:Nat):Int):=(by rw[bG _ (by omega)];rfl);have rA:=Ji g bB;have s9:=Jj g i;have BU:I τ:=Ap (A:=A) (hY tc).inv _ σ τ (λa ha=>hA a (by rw[rA];exact Ti _ ha)) hI bK;have b3:(0<=(s:Int)/\(s:Int)<3)=True:=(by simp;omega);have b4:(0<=(i:Int)/\(i:Int)<4)=True:=(by simp;omega);have Dm:(u.testBit i|| !(bR h y).testBit (ns.getD i 0))=true->g i=[]:=λe=>(by rw[<- hg];exact if_pos e);have Jr:(u.testBit i|| !(bR h y).testBit (ns.getD i 0))=false->g i=(mv x.pieces.length ns ((x.aB.map (bR h)).drop (s+1)) (u|||2^i) (o++[i])).map (db h ns):=λe=>(by rw[<- hg];exact if_neg (by rw[e];simp));have R4:=lH.num h4 (by omega) (show i<ns.length by omega);refine aN ?_;refine aj ?_;refine dT 14 ?_;simp only[seval,ht,hs,b3,b4,yS iq,kX R4];refine ii (bv (u.testBit i)) (cI (xc hu ⟨rfl,rfl⟩)) ?_;(try simp only[seval]);refine xg (λh2=> ?_) (λh2=> ?_)
   ·(try simp only[seval,ht,hs,b3,b4,yS iq,kX R4]);refine ii (bv ((bR h y).testBit (ns.getD i 0))) (cI (xc kF ⟨rfl,rfl⟩)) ?_;(try simp only[seval]);refine aD ?_;refine⟨λh3=> ?_,λh3=> ?_⟩
    ·have aM:=Dm (by rw[h2];simpa using h3);refine bZ ?_;refine ak ?_;simp only[seval,bN];exact hR _ ⟨(i+1,τ,tq),(by show x.pieces.length-(i+1)<x.pieces.length-i;omega),⟨by omega,by rw[s9,aM,S0];exact bK,lH⟩,dq⟩
    ·have aM:=Jr (by rw[h2];simpa using h3);have j6:(tq.map iv).length=11:=(by rw[Tp,lH.len]);have Ij:8+s<tq.length:=(by rw[lH.len];omega);refine aN ?_;refine ak ?_;simp only[seval,ht,b3,j6];refine⟨by omega,?_⟩;rw[wz Ij,dR];refine dT 6 ?_;simp only[seval,g1,yc];refine ii (wv (u|||2^i)) (cI (ub hu (show i<16 by omega) ⟨rfl,rfl⟩)) ?_;rw[hws];have kG:u|||2^i<65536:=pn hu (wE (by omega));refine aK ((ihd (s+1) (u|||2^i) (o++[i]) (tq.set (8+s) (i:Int)) τ M _ _ (by omega) kG (by simp[ho]) (lH.next (by omega) xN) BU (λa ha=>hA a (by rw[rA,aM];exact S6 _ (Ti _ ha))) (λek sK=> ?_)));have BX:=sK.back h4 (by omega) ho;have zU:bE f ((SZ x.pieces.length).flatMap g) σ=match bE f (g i) τ with
       |.go s'=>bE f ((T5 (i+1) (x.pieces.length-(i+1))).flatMap g) s'
       |r=>r:=by
      rw[rA,qp,bK];exact qp f (g i) _ τ
     rw[<- aM];have aI:=hk ek BX;rw[zU]at aI;cases hf:bE f (g i) τ with
     |go τ'=>
      simp only[cW];(try simp only[seval]);refine aD ?_;refine aN ?_;refine ak ?_;simp only[seval,bN];exact hR _ ⟨(i+1,τ',ek),(by show x.pieces.length-(i+1)<x.pieces.length-i;omega),⟨by omega,by rw[s9,qp,bK];exact hf,BX⟩,dq⟩
     |stop τ'=>
      rw[hf]at aI;simp only[cW]at aI⊢;(try simp only[seval]);refine aD ?_;refine aj ?_;refine aZ ?_;exact bW aI
     |bad τ'=>
      rw[hf]at aI;simp only[cW]at aI⊢;exact bW aI
   ·(try simp only[seval]);refine aD ?_;have aM:=Dm (by rw[show u.testBit i=true by simpa using h2];rfl);refine bZ ?_;refine ak ?_;simp only[seval,bN];exact hR _ ⟨(i+1,τ,tq),(by show x.pieces.length-(i+1)<x.pieces.length-i;omega),⟨by omega,by rw[s9,aM,S0];exact bK,lH⟩,dq⟩
  ·have dw:i=x.pieces.length:=(by omega);subst dw;have aI:=hk tq lH;rw[bK]at aI;refine bZ ?_;refine aj ?_;refine aZ ?_;exact bW aI
theorem aik{H:List aa}{k kp:AV->List aa->Prop}{x:ai}{tc:List Int}{qs:List Nat}(hk:k (.fn (.func 108) [] [.op H.length 0,.op (H.length+1) 0,.op (H.length+2) 0]) (H++[.cells x.l 76,.cells (tc.map iv) 86,.cells (qs.map λn=>wv n) 81])):bf lv SC 93 H [x.av,.agg (tc.map iv),.agg (qs.map λn=>wv n)] k kp:=by
 refine bH (rs:=[.tmp 6]) (nt:=8) Tryz.f93 λhH hA=> ?_;simp only[br,SW,ai.av];refine aj ?_;refine ak ?_;simp only[seval,T8,UA,Uh,TP];refine aZ ?_;exact bW hk
theorem ahB{x:ai}{h:List Int}{ns qs:List Nat}{N ir it is:Nat}{yv pv:AV}{S:Type}{f:S->List Int->dA S}{Gf:List Int->S->List aa}{I:S->Prop}{A:List Int->Prop}{tc:List Int}{σ:S}{k kp:AV->List aa->Prop}(hx:x.Ok)(h4:h.length=4)(i_:ns.length=x.pieces.length)(hY:∀tc,jN lv SC yv f (Gf tc) N I A pv)(hr:∀tc σ L,(Gf tc σ++L)[ir]?=some (.cells x.l 76))
  (ht:∀tc σ L,(Gf tc σ++L)[it]?=some (.cells (tc.map iv) 86)) (dR:∀tc ek σ L,(Gf tc σ++L).set it (.cells (ek.map iv) 86)=Gf ek σ++L) (hs:∀tc σ L,(Gf tc σ++L)[is]?=some (.cells (qs.map λn=>wv n) 81)) (zK:∃r,qs=x.aB.map (bR h)++r) (xL:qs.length=3)
  (az:∀m tc ek σ,(∀z∈Gf tc σ,eV m z)->∀z∈Gf ek σ,eV m z) (nF:∀n,Lt n pv) (xP:tc=dS h ns) (hI:I σ) (hA:∀a∈(ie x h ns).map (db h ns),A a) (hk:∀ek,ek.length=11->fV (Gf ek) pv k kp [] (bE f ((ie x h ns).map (db h ns)) σ)):bf lv SC 108 (Gf tc σ) [yv,.op ir 0,.op it 0,.op is 0] k kp:=by
 refine bH (rs:=[]) (nt:=9) Tryz.f108 λhH ud=> ?_;simp only[br,SW];have hN:=(hY tc).len σ;have mh:=hx.c9;have xN:=hx.eK;refine ak ?_;simp only[seval,(hY tc).parts];refine aj ?_;refine ak ?_;simp only[seval,T8,UA,Uh,TP];refine aj ?_;refine aK (?_);rw[hN];have rK:∀n,Lt n (.aJ []):=λn=>by simp[je]
 have cO:=Ak (k:=4) (l:=ns) (by omega);have cut:∀(ek:List Int)(σ':S)(L:List aa)(a:AV)(k:AV->List aa->Prop),(∀n,Lt n a)->k a (Gf ek σ')->cw (Gf tc σ).length (Gf ek σ'++L) a k:=λek σ' L a k ha aI=>by
  refine jR (H':=Gf ek σ') (Wk.refl _) rfl (by rw[(hY ek).len,(hY tc).len];exact SR _) ?_ (ha _) aI;intro z hz;have h1:∀z∈Gf ek σ,eV N z:=az N tc ek σ (λw hw=>by have:=hH w hw;rwa [hN]at this);rw[(hY ek).len];exact(hY ek).ok N σ σ' h1 z hz
 refine ahC (x:=x) (h:=h) (ns:=ns) (qs:=qs) hx h4 i_ hY hr ht dR hs zK xL x.aB.length 0 0 [] tc σ [] _ _ rfl (by decide) rfl ⟨?_,?_,?_⟩ hI hA (λek sK=> ?_)
 ·rw[xP];simp[dS,h4,cO]
 ·rw[xP];unfold dS;rw[List.map_nil,S0,Tw (by simp[h4,cO]),SY (by simp[h4,cO])]
 ·rw[xP];unfold dS;rw[Vv,TS (by simp[h4,cO]),UF];have:(h++kM 4 ns).length=8:=by simp[h4,cO]
  rw[this];have:x.aB.length=0\/x.aB.length=1\/x.aB.length=2\/x.aB.length=3:=by omega
  rcases this with e|e|e|e<;>rw[e]<;>rfl
 have hk:=hk ek sK.len;change cW (Gf ek) pv _ _ _ (bE f ((ie x h ns).map (db h ns)) σ);cases hf:bE f ((ie x h ns).map (db h ns)) σ with
 |go s=>
  rw[hf]at hk;simp only[cW,fV]at hk⊢;rw[S0]at hk;(try simp only[seval]);rw[<- hN];exact cut _ _ _ _ _ rK hk
 |stop s=>
  rw[hf]at hk;simp only[cW,fV]at hk⊢;rw[S0]at hk;(try simp only[seval]);rw[<- hN];exact cut _ _ _ _ _ rK hk
 |bad s=>
  rw[hf]at hk;simp only[cW,fV]at hk⊢;rw[S0]at hk;rw[<- hN];exact cut _ _ _ _ _ nF hk
end
section
variable {lv:Bool}{P:SJ}{s:AS}{ms:List Nat}{bs:List UX}{nt:Nat}
theorem afx{f:Tm}{ps:Array Tmp}{bL body:T7}{fv:AV}{Φ:an->AS->List Nat->Prop}(hf:s.ev f=some fv)
  (h:∀(l fn:Nat)(T:List (Nat×AV))(ag bo:T7),T=s.T->ag=bL->bo=body->iQ lv P fv (s.H++[.obj (.deferred (some [])),.loop l .ready none fn T nt ps ag bo s.H.length]) [.fn (.yield l) [] []]
   (λ_ H'=>∃st pe fB T' jg gr fW fu fX,H'[s.H.length+1]?=some (.loop l st pe fB T' jg gr fW fu fX)/\st≠ .busy/\sj Φ ⟨s.T,H'.set (s.H.length+1) .gone⟩ (s.H.length::ms) pe)
   (λpv H'=>Φ (.panic pv) ⟨s.T,H'⟩ (s.H.length::ms))):mA lv P nt (.rangeFunc f ps bL body) s ms Φ:=afw hf λl fn=>h l fn _ _ _ rfl rfl rfl
theorem Ih{f:Tm}{ps:Array Tmp}{bL body:T7}{fv:AV}{Φ:an->AS->List Nat->Prop}(hf:s.ev f=some fv)
  (h:∀(l fn:Nat)(T:List (Nat×AV))(ag bo:T7),T=s.T->ag=bL->bo=body->iQ lv P fv (s.H++[.obj (.deferred (some [])),.loop l .ready none fn T nt ps ag bo s.H.length]) [.fn (.yield l) [] []]
   (λ_ H'=>∃st pe fB T' jg gr fW fu fX,H'[s.H.length+1]?=some (.loop l st pe fB T' jg gr fW fu fX)/\st≠ .busy/\sj Φ ⟨s.T,H'.set (s.H.length+1) .gone⟩ (s.H.length::ms) pe)
   (λpv H'=>Φ (.panic pv) ⟨s.T,H'⟩ (s.H.length::ms))):ku lv P nt bs (.rangeFunc f ps bL body) s ms Φ:=afA hf λl fn=>h l fn _ _ _ rfl rfl rfl
theorem Ei{f:Tm}{ps:Array Tmp}{bL body:T7}{fv:AV}{Φ:an->AS->Prop}{l0:Nat}(F6:Nat){Jk Mi df:Nat}{Nb:ab_}{Mw:Option T7}{T0:List (Nat×AV)}{MR:Array Tmp}{H9 Io:T7}(hf:s.ev f=some fv)(h0:s.H[F6]?=some (.loop l0 Nb Mw Jk T0 Mi MR H9 Io df))
  (h:∀(l fn:Nat)(T:List (Nat×AV))(ag bo:T7),T=s.T->ag=bL->bo=body->iQ lv P fv (s.H++[.loop l .ready none fn T nt ps ag bo df]) [.fn (.yield l) [] []]
   (λ_ H'=>∃st pe fB T' jg gr fW fu fX,H'[s.H.length]?=some (.loop l st pe fB T' jg gr fW fu fX)/\st≠ .busy/\tP Φ ⟨s.T,H'.set s.H.length .gone⟩ pe)
   (λpv H'=>Φ (.panic pv) ⟨s.T,H'⟩)):aW lv P (some l0) nt (.rangeFunc f ps bL body) s Φ:=afk hf h0 λl fn=>h l fn _ _ _ rfl rfl rfl
end
section
variable {P:SJ}
theorem GP(Φ:an->AS->List Nat->Prop)(s:AS)(ms:List Nat):sj Φ s ms none=Φ .normal s ms:=by rw[sj]
theorem aoj(Φ:an->AS->List Nat->Prop)(s:AS)(ms:List Nat):sj Φ s ms (some .ret)=Φ .ret s ms:=by rw[sj]
theorem GQ(Φ:an->AS->Prop)(s:AS):tP Φ s none=Φ .normal s:=by rw[tP]
theorem aol(Φ:an->AS->Prop)(s:AS):tP Φ s (some .ret)=Φ .ret s:=by rw[tP]
theorem aok(Φ:an->AS->Prop)(s:AS)(i:Nat):tP Φ s (some (.exit i))=Φ (.exit i) s:=by rw[tP]
theorem afT(id:Nat)(Φ:an->AS->List Nat->Prop)(s:AS)(ms:List Nat):an.pG id Φ .ret s ms=Φ .ret s ms:=by rw[an.pG];simp
theorem afS(id:Nat)(Φ:an->AS->List Nat->Prop)(pv:AV)(s:AS)(ms:List Nat):an.pG id Φ (.panic pv) s ms=Φ (.panic pv) s ms:=by rw[an.pG];simp
theorem aqC(Φ:an->AS->List Nat->Prop)(pv:AV)(s:AS)(ms:List Nat):an.uY Φ (.panic pv) s ms=Φ (.panic pv) s ms:=by rw[an.uY];simp
theorem arh(K:AS->List Nat->Prop)(Φ:an->AS->List Nat->Prop)(pv:AV)(s:AS)(ms:List Nat):an.rU K Φ (.panic pv) s ms=Φ (.panic pv) s ms:=by rw[an.rU];simp
theorem aiN(rs:List UL)(n:Nat)(k kp:AV->List aa->Prop)(s:AS)(ms:List Nat):sf P rs n k kp .normal s ms=ao (iC ms s.H) λH'=>ao (gR P ⟨s.T,H'⟩ rs) λl=>cw n H' (iM l) k:=by rw[sf]
theorem aiO(rs:List UL)(n:Nat)(k kp:AV->List aa->Prop)(pv:AV)(s:AS)(ms:List Nat):sf P rs n k kp (.panic pv) s ms=ao (iC ms s.H) λH'=>cw n H' pv kp:=by rw[sf]
attribute [seval] afT afS aqC arh aiN aiO
end
inductive Lp where
 |ready
 |ret
 |exit (i:Nat)
 |busy
def Lp.st:Lp->ab_
 |.ready=> .ready
 |.ret=> .done
 |.exit _=> .done
 |.busy=> .busy
def Lp.pe:Lp->Option T7
 |.ready=>none
 |.ret=>some .ret
 |.exit i=>some (.exit i)
 |.busy=>none
namespace Tk
def dA.map {S T:Type}(g:S->T):dA S->dA T
 |.go s=> .go (g s)
 |.stop s=> .stop (g s)
 |.bad s=> .bad (g s)
def dA.fin {S:Type}:dA S->Bool×S
 |.go s=>(false,s)
 |.stop s=>(false,s)
 |.bad s=>(true,s)
end Tk
theorem MX{S:Type}{Gf:S->List aa}{pv:AV}{k kp:AV->List aa->Prop}{M:List aa}{r r':dA S}(h:r.fin=r'.fin)(hk:fV Gf pv k kp M r):fV Gf pv k kp M r':=by
 cases r<;>cases r'<;>simp only[dA.fin,U0]at h<;>first
  |(obtain⟨_,rfl⟩:=h;exact hk)
  |(exact absurd h.1 (by decide))
end Go.Gg
namespace Go.Gg.Tk
open Go.Gg
def iN {S:Type}(f:S->List Int->dA S)(deep:Int)(m:S×Lp)(b:List Int):dA (S×Lp):=match f m.1 b with
 |.go σ=>if deep=0 then .stop (σ,.ret)else if deep=1 then .stop (σ,.exit 3)else .go (σ,.ready)
 |.stop σ=> .stop (σ,.ret)
 |.bad σ=> .bad (σ,.busy)
def kU {S:Type}:dA (S×Lp)->dA (S×Lp)
 |.go m=> .go (m.1,.ready)
 |.stop (σ,.ret)=> .stop (σ,.ret)
 |.stop (σ,_)=> .go (σ,.ready)
 |.bad m=> .bad (m.1,.busy)
def pt {S:Type}(f:S->List Int->dA S)(deep:Int)(L:List Int->List (List Int))(m:S×Lp)(a:List Int):dA (S×Lp):=kU (bE (iN f deep) (L a) (m.1,.ready))
def rN (deep:Int)(ll:List (List (List Int))):List (List Int):=if deep=0 then ll.flatten.take 1 else if deep=1 then(ll.map (·.take 1)).flatten else ll.flatten
theorem arv{S:Type}{f:S->List Int->dA S}{σ:S}{l:Lp}:∀(M:List (List Int)),bE (iN f 0) M (σ,l)=match M with
  |[]=> .go (σ,l)
  |b::_=>match f σ b with
   |.go τ=> .stop (τ,.ret)
   |.stop τ=> .stop (τ,.ret)
   |.bad τ=> .bad (τ,.busy)
 |[]=>rfl
 |b::M=>by
  simp only[bE,iN];cases f σ b<;>simp
theorem arw{S:Type}{f:S->List Int->dA S}{σ:S}{l:Lp}:∀(M:List (List Int)),bE (iN f 1) M (σ,l)=match M with
  |[]=> .go (σ,l)
  |b::_=>match f σ b with
   |.go τ=> .stop (τ,.exit 3)
   |.stop τ=> .stop (τ,.ret)
   |.bad τ=> .bad (τ,.busy)
 |[]=>rfl
 |b::M=>by
  simp only[bE,iN];cases f σ b<;>simp
theorem adf{S:Type}{f:S->List Int->dA S}{deep:Int}(h0:deep≠0)(h1:deep≠1):∀(M:List (List Int))(σ:S),bE (iN f deep) M (σ,.ready)=match bE f M σ with
  |.go τ=> .go (τ,.ready)
  |.stop τ=> .stop (τ,.ret)
  |.bad τ=> .bad (τ,.busy)
 |[],σ=>rfl
 |b::M,σ=>by
  simp only[bE,iN,h0,h1,if_false];cases f σ b with
  |go τ=>exact adf h0 h1 M τ
  |stop τ=>rfl
  |bad τ=>rfl
theorem adg{S:Type}{f:S->List Int->dA S}{deep:Int}{L:List Int->List (List Int)}:∀(l:List (List Int))(σ:S),((bE (pt f deep L) l (σ,.ready)).map Prod.fst).fin=(bE f (rN deep (l.map L)) σ).fin/\(∀m,bE (pt f deep L) l (σ,.ready)=.go m->m.2=.ready)
 |[],σ=>by
  have:rN deep (([]:List (List Int)).map L)=[]:=by
   unfold rN;by_cases h0:deep=0
   ·rw[if_pos h0];rfl
   ·by_cases h1:deep=1
    ·rw[if_neg h0,if_pos h1];rfl
    ·rw[if_neg h0,if_neg h1];rfl
  rw[this];exact⟨rfl,λm h=>by cases h;rfl⟩
 |a::l,σ=>by
  have ih:=adg (f:=f) (deep:=deep) (L:=L) l;by_cases h0:deep=0
  ·subst h0;have hp:rN 0 ((a::l).map L)=(L a++(l.map L).flatten).take 1:=rfl;have ln:rN 0 (l.map L)=((l.map L).flatten).take 1:=rfl;rw[hp];simp only[bE,pt,arv];cases hL:L a with
   |nil=>
    simp only[kU,UF];rw[<- ln];exact ih σ
   |cons b M=>
    simp only[Vf,U8,an'];cases hf:f σ b with
    |go τ=>simp only[kU,bE,hf];exact⟨rfl,λm h=>by cases h⟩
    |stop τ=>simp only[kU,bE,hf];exact⟨rfl,λm h=>by cases h⟩
    |bad τ=>simp only[kU,bE,hf];exact⟨rfl,λm h=>by cases h⟩
  by_cases h1:deep=1
  ·subst h1;have hp:rN 1 ((a::l).map L)=(L a).take 1++rN 1 (l.map L):=rfl;rw[hp,qp];simp only[bE,pt,arw];cases hL:L a with
   |nil=>
    simp only[kU,List.take_nil,bE];exact ih σ
   |cons b M=>
    simp only[U8,an',bE];cases hf:f σ b with
    |go τ=>simp only[kU];exact ih τ
    |stop τ=>simp only[kU];exact⟨rfl,λm h=>by cases h⟩
    |bad τ=>simp only[kU];exact⟨rfl,λm h=>by cases h⟩
  ·have hp:rN deep ((a::l).map L)=L a++rN deep (l.map L):=(by unfold rN;rw[if_neg h0,if_neg h1,if_neg h0,if_neg h1];rfl);rw[hp,qp];simp only[bE,pt];rw[adf h0 h1];cases hf:bE f (L a) σ with
   |go τ=>simp only[kU];exact ih τ
   |stop τ=>simp only[kU];exact⟨rfl,λm h=>by cases h⟩
   |bad τ=>simp only[kU];exact⟨rfl,λm h=>by cases h⟩
theorem M0{S α:Type}{F:S->α->dA S}:∀{l:List α}{s s':S},bE F l s=.stop s'->∃t a,F t a=.stop s'
 |[],s,s',h=>by cases h
 |a::l,s,s',h=>by
  simp only[bE]at h;cases hf:F s a with
  |go t=>rw[hf]at h;exact M0 h
  |stop t=>rw[hf]at h;cases h;exact⟨s,a,hf⟩
  |bad t=>rw[hf]at h;cases h
theorem aru{S:Type}{f:S->List Int->dA S}{deep:Int}{L:List Int->List (List Int)}{m m':S×Lp}{a:List Int}(h:pt f deep L m a=.stop m'):m'.2=.ret:=by
 unfold pt at h;generalize bE (iN f deep) (L a) (m.1,.ready)=r at h;cases r with
 |go q=>cases h
 |bad q=>cases h
 |stop q=>
  obtain⟨s,lp⟩:=q;cases lp<;>cases h;rfl
theorem ary{S:Type}{f:S->List Int->dA S}{deep:Int}{m m':S×Lp}{a:List Int}(h:iN f deep m a=.stop m'):m'.2=.ret\/m'.2=.exit 3:=by
 unfold iN at h;cases hf:f m.1 a with
 |go q=>
  rw[hf]at h;dsimp only at h;by_cases h0:deep=0
  ·rw[if_pos h0]at h;cases h;exact .inl rfl
  ·rw[if_neg h0]at h;by_cases h1:deep=1
   ·rw[if_pos h1]at h;cases h;exact .inr rfl
   ·rw[if_neg h1]at h;cases h
 |stop q=>rw[hf]at h;cases h;exact .inl rfl
 |bad q=>rw[hf]at h;cases h
theorem arx{S:Type}{f:S->List Int->dA S}{deep:Int}{m m':S×Lp}{a:List Int}(h:iN f deep m a=.go m'):m'.2=.ready:=by
 unfold iN at h;cases hf:f m.1 a with
 |go q=>
  rw[hf]at h;dsimp only at h;by_cases h0:deep=0
  ·rw[if_pos h0]at h;cases h
  ·rw[if_neg h0]at h;by_cases h1:deep=1
   ·rw[if_pos h1]at h;cases h
   ·rw[if_neg h1]at h;cases h;rfl
 |stop q=>rw[hf]at h;cases h
 |bad q=>rw[hf]at h;cases h
theorem abW{S α:Type}{F:S->α->dA S}{J:S->Prop}{A:α->Prop}(hi:∀s a s',J s->A a->F s a=.go s'->J s'):∀{l:List α}{s s':S},(∀a∈l,A a)->J s->bE F l s=.stop s'->∃t a,J t/\A a/\F t a=.stop s'
 |[],s,s',_,_,h=>by cases h
 |a::l,s,s',ha,hs,h=>by
  simp only[bE]at h;cases hf:F s a with
  |go t=>rw[hf]at h;exact abW hi (λb hb=>ha b (by simp[hb])) (hi s a t hs (ha a (by simp)) hf) h
  |stop t=>rw[hf]at h;cases h;exact⟨s,a,hs,ha a (by simp),hf⟩
  |bad t=>rw[hf]at h;cases h
theorem Ds{S:Type}{f:S->List Int->dA S}{deep:Int}{I:S->Prop}{A:List Int->Prop}(hi:∀s a s',I s->A a->f s a=.go s'->I s'){m m':S×Lp}{a:List Int}(hm:I m.1)(ha:A a)(h:iN f deep m a=.go m'\/iN f deep m a=.stop m'/\m'.2≠ .ret):I m'.1:=by
 unfold iN at h;cases hf:f m.1 a with
 |go q=>
  have hq:=hi _ _ _ hm ha hf;rw[hf]at h;dsimp only at h;by_cases h0:deep=0
  ·rw[if_pos h0]at h;rcases h with h|⟨h,h2⟩
   ·cases h
   ·cases h;exact hq
  ·rw[if_neg h0]at h;by_cases h1:deep=1
   ·rw[if_pos h1]at h;rcases h with h|⟨h,h2⟩
    ·cases h
    ·cases h;exact hq
   ·rw[if_neg h1]at h;rcases h with h|⟨h,h2⟩
    ·cases h;exact hq
    ·cases h
 |stop q=>
  rw[hf]at h;rcases h with h|⟨h,h2⟩
  ·cases h
  ·cases h;exact absurd rfl h2
 |bad q=>
  rw[hf]at h;rcases h with h|⟨h,h2⟩
  ·cases h
  ·cases h
theorem aeF{S:Type}{f:S->List Int->dA S}{deep:Int}{I:S->Prop}{A:List Int->Prop}(hi:∀s a s',I s->A a->f s a=.go s'->I s'){l:List (List Int)}{σ:S}{m:S×Lp}(hl:∀a∈l,A a)(hs:I σ)(h:kU (bE (iN f deep) l (σ,.ready))=.go m):I m.1/\m.2=.ready:=by
 cases hr:bE (iN f deep) l (σ,.ready)with
 |go q=>
  rw[hr]at h;cases h;exact⟨Ap (f:=iN f deep) (s':=q) (I:=λm:S×Lp=>I m.1) (A:=A) (λs a s' h1 h2 h3=>Ds hi h1 h2 (.inl h3)) l _ hl hs hr,rfl⟩
 |stop q=>
  obtain⟨t,a,h1,h2,h3⟩:=abW (J:=λm:S×Lp=>I m.1) (A:=A) (λs a s' h1 h2 h3=>Ds hi h1 h2 (.inl h3)) hl hs hr;rw[hr]at h;obtain⟨q1,q2⟩:=q;cases q2 with
  |ret=>cases h
  |ready=>cases h;exact⟨Ds (m':=(q1,.ready)) hi h1 h2 (.inr ⟨h3,by simp⟩),rfl⟩
  |exit i=>cases h;exact⟨Ds (m':=(q1,.exit i)) hi h1 h2 (.inr ⟨h3,by simp⟩),rfl⟩
  |busy=>cases h;exact⟨Ds (m':=(q1,.busy)) hi h1 h2 (.inr ⟨h3,by simp⟩),rfl⟩
 |bad q=>rw[hr]at h;cases h
end Go.Gg.Tk
namespace Go.Gg
open Go.Conc Go.Proofs Go.Gg.Tk
namespace Tk
def nf (l:List Nat)(i:Nat):List Nat:=l.take i++TM (3-i) 0
theorem afM{l:List Nat}{i q:Nat}(h:l[i]?=some q)(hl:l.length<=3):(nf l i).set i q=nf l (i+1):=by
 have hi:=eR h;unfold nf;rw[UN _ _ (by simp;omega),show i-(l.take i).length=0 by simp;omega,show 3-i=(3-(i+1))+1 by omega,Ww,TZ,WA,h];simp
theorem OG{l:List Nat}{i:Nat}(hi:i<=l.length)(hl:l.length<=3):(nf l i).length=3:=by simp[nf];omega
theorem afL{l:List Nat}:nf l l.length=l++TM (3-l.length) 0:=by simp[nf]
theorem abj:∀{qs:List Nat}{u:Nat}{t ns:List Nat},ns∈kL qs u t->ns.length=t.length+qs.length
 |[],u,t,ns,h=>by
  simp only[kL,S9]at h;subst h;rfl
 |q::qs,u,t,ns,h=>by
  simp only[kL,S5]at h;obtain⟨n,_,h⟩:=h;split at h
  ·cases h
  ·have:=abj h;simp at this⊢;omega
theorem Mj{x:ai}{h:List Int}{ns:List Nat}(hm:ns∈fS x h):ns.length=x.pieces.length:=by
 have:=abj hm;simpa using this
def Gw (k:Nat)(a:List Int):List Nat:=((a.drop 4).take k).map Yu
theorem anp{h:List Int}{ns:List Nat}(h4:h.length=4):Gw ns.length (dS h ns)=ns:=by
 unfold Gw dS kM;rw[SD,Vv,TS (by omega),h4,UF,Vd,Xx,SD,Tw (by simp),SY (by simp),XW]
 conv=>rhs;rw[<- List.map_id ns]
 exact VB λn _=>by simp
def uE (x:ai)(h:List Int)(a:List Int):List (List Int):=(ie x h (Gw x.pieces.length a)).map (db h (Gw x.pieces.length a))
theorem Lw{x:ai}{h:List Int}{ns:List Nat}(h4:h.length=4)(hn:ns.length=x.pieces.length):uE x h (dS h ns)=(ie x h ns).map (db h ns):=by
 unfold uE;rw[<- hn,anp h4]
theorem arC{x:ai}{h:List Int}{deep:Int}(h4:h.length=4):gG x deep h=rN deep (((fS x h).map (dS h)).map (uE x h)):=by
 rw[XW];have:(fS x h).map (uE x h∘dS h)=(fS x h).map λns=>(ie x h ns).map λos=>db h ns os:=VB λns hm=>Lw h4 (Mj hm);rw[this];rfl
end Tk
section
variable {lv:Bool}
theorem I6{H:List aa}{k kp:AV->List aa->Prop}{x:ai}{h:List Int}{deep:Int}(hk:k (.fn (.func 91) [] [.op H.length 0,.op (H.length+1) 0,.op (H.length+2) 0]) (H++[.cells x.l 76,.cells (h.map iv) 83,.cells [iv deep] 3])):bf lv SC 66 H [x.av,.agg (h.map iv),iv deep] k kp:=by
 refine bH (rs:=[.tmp 6]) (nt:=8) Tryz.f66 λhH hA=> ?_;simp only[br,SW,ai.av];refine aj ?_;refine ak ?_;simp only[seval,T8,UA,Uh,TP];refine aZ ?_;exact bW hk
theorem I_{x:ai}{h:List Int}{deep:Int}{N ir ih id:Nat}{yv pv:AV}{S:Type}{f:S->List Int->dA S}{Gf:S->List aa}{I:S->Prop}{A:List Int->Prop}{σ:S}{k kp:AV->List aa->Prop}(hx:x.Ok)(hh:mB h)(hY:jN lv SC yv f Gf N I A pv)(hr:∀σ L,(Gf σ++L)[ir]?=some (.cells x.l 76))(hi:∀σ L,(Gf σ++L)[ih]?=some (.cells (h.map iv) 83))(hd:∀σ L,(Gf σ++L)[id]?=some (.cells [iv deep] 3))
  (nF:∀n,Lt n pv) (hI:I σ) (pM:∀a,A a->a.length=11) (hA:∀ns∈fS x h,∀a∈(ie x h ns).map (db h ns),A a) (hk:fV Gf pv k kp [] (bE f (gG x deep h) σ)):bf lv SC 91 (Gf σ) [yv,.op ir 0,.op ih 0,.op id 0] k kp:=by
 refine Qf (rs:=[]) (nt:=44) F.f91 rfl rfl rfl (by simp) λhH ud=> ?_;simp only[br,SW];have hN:=hY.len σ;have xN:=hx.eK;have bS:x.l=[iv x.first,iv x.hours,iv x.am,dY x.seen,bp x.pieces,bp x.aB]:=rfl;have nq:(h.map iv).length=4:=by rw[Tp,hh.len]
 refine nd ?_;refine ak ?_;simp only[seval,hY.parts];refine afy ?_;refine nd ?_;refine aj ?_;refine Ig ?_;refine nd ?_;refine ak ?_;simp only[seval,hr,bS,bp];refine If ?_;refine cy ?_;refine gL x.aB.length (λi:Nat=>[(14,iv i)]) (λi=>Gf σ++[.cells [yv] 132,.cells ((nf (x.aB.map (bR h)) i).map λn=>wv n) 81]) (λi=>True) (λ_ _=>rfl) (by simp only[seval];simp[bz,Wk.refl]) rfl (λ_ _ _=>by simp) trivial (λbU cS i cM _ R hR=> ?_);refine aj ?_;refine aD ?_;refine⟨λhc=> ?_,λhc=> ?_⟩
 ·have bB:i<x.aB.length:=by omega
  obtain⟨y,hy⟩:=bX bB;have uB:(x.aB.map (bR h))[i]?=some (bR h y):=by rw[To,hy];rfl
  have b3:(0<=(i:Int)/\(i:Int)<3)=True:=by simp;omega
  have bN:SF.wrap ((i:Int)+1)=((i+1:Nat):Int):=by rw[bG _ (by omega)];rfl
  have cL:(nf (x.aB.map (bR h)) i).length=3:=OG (by simp;omega) (by simpa using xN);have vP:((nf (x.aB.map (bR h)) i).map λn=>wv n).length=3:=by rw[Tp,cL]
  refine aN ?_;refine ak ?_;simp only[seval,G7 hy,jp bB];refine ak ?_;simp only[seval,hi,nq];rw[SY (i:=4) (l:=h.map iv) (by rw[nq];exact SR _)];refine aK ((EC (h:=h) (y:=y) hh ?_));(try simp only[seval,b3,vP]);refine⟨by omega,?_⟩;rw[M7 (g:=λn=>wv n) (show i<(nf (x.aB.map (bR h)) i).length by omega),afM uB (by simpa using xN)];refine ak ?_;simp only[seval,bN];exact hR _ ⟨bB,trivial,Ao (pf rfl rfl) (by simp only[seval];simp[bz,Wk.refl]) (R6 (L:=[_]) bU (abp _ _)) (by simp[eI])⟩
 have:i=x.aB.length:=by omega
 subst this;clear hc cM;refine bZ ?_;have zK:∃r,nf (x.aB.map (bR h)) x.aB.length=x.aB.map (bR h)++r:=⟨_,by
  have:=afL (l:=x.aB.map (bR h));simpa using this⟩
 have xL:(nf (x.aB.map (bR h)) x.aB.length).length=3:=OG (by simp) (by simpa using xN);have KU:((nf (x.aB.map (bR h)) x.aB.length).map λn=>wv n).length=3:=by rw[Tp,xL]
 generalize nf (x.aB.map (bR h)) x.aB.length=qs at zK xL KU;refine nd ?_;(repeat apply gW);refine Oq ?_;simp only[seval];refine nd ?_;refine ak ?_;simp only[seval,hr,bS,hi,nq];rw[SY (i:=4) (l:=h.map iv) (by rw[nq];exact SR _)];refine aK ((aij (x:=x) (h:=h) ?_));(try simp only[seval]);refine afv ?_;refine afx (by rfl) λl fn T ag bo hT xp pP=> ?_;(try simp only[seval]);rw[hN]at hT⊢;have h4:=hh.len;have ajr:jN lv SC (.fn (.yield l) [] []) (pt f deep (uE x h)) (λm:S×Lp=>Gf m.1++[.cells [yv] 132,.cells (qs.map λn=>wv n) 81,.cells x.l 76,.cells (h.map iv) 83,.obj (.deferred (some [])),.loop l m.2.st m.2.pe fn T 44 #[28] ag bo (N+4)]) (N+6) (λm=>I m.1/\m.2=.ready) (λa=>∃ns∈fS x h,a=dS h ns) pv:=by
  have g3:∀(σ:S)(L:List aa),(Gf σ++L)[N+1]?=L[1]?:=λσ L=>hY.get σ L 1;have g5:∀(σ:S)(L:List aa),(Gf σ++L)[N+5]?=L[5]?:=λσ L=>hY.get σ L 5;have s5:∀(σ:S)(L:List aa) y,(Gf σ++L).set (N+5) y=Gf σ++L.set 5 y:=λσ L y=>hY.set σ L 5 y;refine⟨λm a M k kp hm ha dD=> ?_,λm a m' hm ha he=> ?_,λm=>by simp[hY.len],λq m m' hz z fb=> ?_,rfl,rfl,rfl⟩
  ·obtain⟨σ,lp⟩:=m;obtain⟨JB,gP⟩:=hm;replace JB:I σ:=JB;replace gP:lp=.ready:=gP;subst gP;obtain⟨ns,i_,rfl⟩:=ha;have iZ:=Mj i_;have qf:(dS h ns).length=11:=(by simp[dS,h4,Ak (k:=4) (l:=ns) (by have:=hx.c9;omega)]);have zS:((dS h ns).map iv).length=11:=(by rw[Tp,qf]);obtain⟨Lo,ld⟩:∃Lo,Lo=aa.loop l .busy none fn T 44 #[28] ag bo (N+4):=⟨_,rfl⟩;obtain⟨P1,dt⟩:∃P1:S->List aa,∀σ,P1 σ=Gf σ++([.cells [yv] 132,.cells (qs.map λn=>wv n) 81,.cells x.l 76,.cells (h.map iv) 83,.obj (.deferred (some [])),Lo]++M):=⟨_,λ_=>rfl⟩;have ey:∀σ,(P1 σ).length=N+6+M.length:=λσ=>(by rw[dt];simp[hY.len];omega);have pg:∀(σ:S)(L:List aa)(i:Nat),i<6->(P1 σ++L)[N+i]?=[aa.cells [yv] 132,.cells (qs.map λn=>wv n) 81,.cells x.l 76,.cells (h.map iv) 83,.obj (.deferred (some [])),Lo][i]?:=λσ L i Km=>by
    rw[dt,SD,hY.get,SD,SX (by simpa using Km)]
   have pr:∀(σ:S)(L:List aa),(P1 σ++L)[ir]?=some (.cells x.l 76):=λσ L=>(by rw[dt,SD];exact hr σ _);have pd:∀(σ:S)(L:List aa),(P1 σ++L)[id]?=some (.cells [iv deep] 3):=λσ L=>(by rw[dt,SD];exact hd σ _);have pb:∀(σ:S)(L:List aa)(i:Nat),(P1 σ++L)[N+6+M.length+i]?=L[i]?:=λσ L i=>(by rw[<- ey σ,aX]);have ww:∀(σ:S)(L:List aa),(P1 σ++L)[N+6+M.length]?=L[0]?:=λσ L=>pb σ L 0;have pg1:∀(σ:S)(L:List aa),(P1 σ++L)[N+1]?=some (.cells (qs.map λn=>wv n) 81):=λσ L=>pg σ L 1 (by omega);have pg0:∀(σ:S)(L:List aa),(P1 σ++L)[N]?=some (.cells [yv] 132):=λσ L=>pg σ L 0 (by omega);have Rc:∀(τ:S)(lp:Lp),bP (Gf σ++(([aa.cells [yv] 132,.cells (qs.map λn=>wv n) 81,.cells x.l 76,.cells (h.map iv) 83,.obj (.deferred (some [])),.loop l .ready none fn T 44 #[28] ag bo (N+4)]:List aa)++M))->bP (Gf τ++(([aa.cells [yv] 132,.cells (qs.map λn=>wv n) 81,.cells x.l 76,.cells (h.map iv) 83,.obj (.deferred (some [])),.loop l lp.st lp.pe fn T 44 #[28] ag bo (N+4)]:List aa)++M)):=λτ lp gY z hz=>by
    have hlen:(Gf τ++(([aa.cells [yv] 132,.cells (qs.map λn=>wv n) 81,.cells x.l 76,.cells (h.map iv) 83,.obj (.deferred (some [])),.loop l lp.st lp.pe fn T 44 #[28] ag bo (N+4)]:List aa)++M)).length=(Gf σ++(([aa.cells [yv] 132,.cells (qs.map λn=>wv n) 81,.cells x.l 76,.cells (h.map iv) 83,.obj (.deferred (some [])),.loop l .ready none fn T 44 #[28] ag bo (N+4)]:List aa)++M)).length:=(by simp[hY.len]);have hl:=gY (.loop l .ready none fn T 44 #[28] ag bo (N+4)) (by simp);rw[hlen];rcases SS.1 hz with h'|h'
    ·exact hY.ok _ σ τ (λw hw=>gY w (Ti _ hw)) z h'
    ·rcases SS.1 h' with h'|h'
     ·simp only[SL,S4,or_false]at h';rcases h' with rfl|rfl|rfl|rfl|rfl|rfl
      ·exact gY _ (by simp)
      ·exact gY _ (by simp)
      ·exact gY _ (by simp)
      ·exact gY _ (by simp)
      ·exact gY _ (by simp)
      ·exact hl
     ·exact gY z (S6 _ (S6 _ h'))
   have Jb:bP (Gf σ++(([aa.cells [yv] 132,.cells (qs.map λn=>wv n) 81,.cells x.l 76,.cells (h.map iv) 83,.obj (.deferred (some [])),.loop l .ready none fn T 44 #[28] ag bo (N+4)]:List aa)++M))->∀(τ:S)(lp:Lp)(b':Bool)(TT:List (Nat×AV))(L:List aa),k (bv b') ((Gf τ++[.cells [yv] 132,.cells (qs.map λn=>wv n) 81,.cells x.l 76,.cells (h.map iv) 83,.obj (.deferred (some [])),.loop l lp.st lp.pe fn T 44 #[28] ag bo (N+4)])++M)->oK (N+5) (N+6+M.length) k lp.st lp.pe b' ⟨TT,P1 τ++L⟩:=λgY τ lp b' TT L dD=>by
    refine⟨l,.busy,none,fn,T,44,#[28],ag,bo,N+4,by show (P1 τ++L)[_]?=_;rw[pg τ _ 5 (by omega),ld];rfl,?_⟩;show cw (N+6+M.length) ((P1 τ++L).set _ _) _ k;rw[dt,SD,s5];rw[SD]at dD;exact jR (G:=L) (Wk.refl _) (by simp) (by simp[hY.len];omega) (Rc τ lp gY) (.val _) dD
   have aiz:bP (Gf σ++(([aa.cells [yv] 132,.cells (qs.map λn=>wv n) 81,.cells x.l 76,.cells (h.map iv) 83,.obj (.deferred (some [])),.loop l .ready none fn T 44 #[28] ag bo (N+4)]:List aa)++M))->∀(τ:S)(L:List aa),kp pv ((Gf τ++[.cells [yv] 132,.cells (qs.map λn=>wv n) 81,.cells x.l 76,.cells (h.map iv) 83,.obj (.deferred (some [])),.loop l Lp.busy.st Lp.busy.pe fn T 44 #[28] ag bo (N+4)])++M)->cw (N+6+M.length) (P1 τ++L) pv kp:=λgY τ L dD=>by
    rw[SD]at dD;rw[dt,ld];exact jR (G:=L) (Wk.refl _) rfl (by simp[hY.len];omega) (Rc τ .busy gY) (nF _) dD
   subst hT xp pP;rw[SD];refine vz (id:=N+5) (by rw[g5];rfl) rfl (by kernel_rfl) λn_ Jw=> ?_;simp only[rY];have vS:UD 11 [iv 0,iv 0,iv 0,iv 0,iv 0,iv 0,iv 0,iv 0,iv 0,iv 0,iv 0]=[]:=rfl;refine ak ?_;simp only[seval,qf,vS];unfold tQ;refine⟨none,fn,_,44,#[28],_,_,_,by rw[g5];rfl,?_⟩;dsimp only;rw[s5];simp only[UC,TZ];rw[<- ld];have xi:(Gf σ).length+(M.length+1+1+1+1+1+1)=N+6+M.length:=(by rw[hY.len];omega);rw[xi];have xA:∀z:aa,Gf σ++aa.cells [yv] 132::aa.cells (U6 (λn=>wv n) qs) 81::aa.cells x.l 76::aa.cells (U6 iv h) 83::aa.obj (at0 (some []))::Lo::(M++[z])=P1 σ++[z]:=λz=>(by rw[dt];simp);rw[xA];refine ak ?_;simp only[seval,pr,bS,ww,pg1,zS,qf,KU,xL];rw[SY (i:=11) (l:=(dS h ns).map iv) (by rw[zS];exact SR _),SY (i:=3) (l:=qs.map λn=>wv n) (by rw[KU];exact SR _)];refine aK ((aik (x:=x) (tc:=dS h ns) (qs:=qs) ?_));(try simp only[seval]);refine cy ?_;have pY:∀(σ:S)(a b c d:aa),(P1 σ++[a,b,c,d]).length=N+6+M.length+4:=λσ a b c d=>(by simp[ey]);refine Ei (N+5) (by rfl) (by show (P1 σ++_)[N+5]?=_;rw[pg σ _ 5 (by omega),ld];rfl) λl2 eQ T2 gA gB oc xq xu=> ?_;simp only[seval];rw[ey]at oc⊢;have Ac:∀(σ τ:S)(L L':List aa),L'.length=L.length->(∀q,(∀z∈L,eV q z)->∀z∈L',eV q z)->bP (P1 σ++L)->bP (P1 τ++L'):=λσ τ L L' hl hL hH z hz=>by
    have hlen:(P1 τ++L').length=(P1 σ++L).length:=(by simp[ey,hl]);rw[hlen];rcases SS.1 hz with h'|h'
    ·rw[dt]at h';rcases SS.1 h' with h'|h'
     ·exact hY.ok _ σ τ (λw hw=>hH w (Ti _ (by rw[dt];exact Ti _ hw))) z h'
     ·exact hH z (Ti _ (by rw[dt];exact S6 _ h'))
    ·exact hL _ (λw hw=>hH w (S6 _ hw)) z h'
   have xo:∀tc:List Int,jN lv SC (.fn (.yield l2) [] []) (iN f deep) (λm:S×Lp=>P1 m.1++[.cells ((dS h ns).map iv) 86,.cells x.l 76,.cells (tc.map iv) 86,.cells (qs.map λn=>wv n) 81,.loop l2 m.2.st m.2.pe eQ T2 44 #[33] gA gB (N+4)]) (N+6+M.length+5) (λm=>I m.1/\m.2=.ready) A pv:=λtc=>by
    refine⟨λm b M2 k2 xY hm hb lm=> ?_,λm b m' hm hb he=> ?_,λm=>by simp[ey],λq m m' hz z fb=> ?_,rfl,rfl,rfl⟩
    ·obtain⟨σ',lp⟩:=m;obtain⟨JC,gP⟩:=hm;replace JC:I σ':=JC;replace gP:lp=.ready:=gP;subst gP;have cL:b.length=11:=pM b hb;have vP:(b.map iv).length=11:=(by rw[Tp,cL]);obtain⟨pz,sJ⟩:∃Lo,Lo=aa.loop l2 .busy none eQ T2 44 #[33] gA gB (N+4):=⟨_,rfl⟩;obtain⟨Q1,fZ⟩:∃Q1:S->List aa,∀σ,Q1 σ=P1 σ++([.cells ((dS h ns).map iv) 86,.cells x.l 76,.cells (tc.map iv) 86,.cells (qs.map λn=>wv n) 81,pz]++M2):=⟨_,λ_=>rfl⟩;obtain⟨C,hC⟩:∃C,C=N+6+M.length+5+M2.length:=⟨_,rfl⟩;have JI:∀σ,(Q1 σ).length=C:=λσ=>(by rw[fZ,hC];simp[ey];omega);have lV:∀(σ:S)(L:List aa),(P1 σ++L)[N+6+M.length+4]?=L[4]?:=λσ L=>pb σ L 4;have pq:∀(σ:S)(L:List aa)(y:aa),(P1 σ++L).set (N+6+M.length+4) y=P1 σ++L.set 4 y:=λσ L y=>(by rw[<- ey σ,ec]);have qN:∀(σ:S)(L:List aa),(Q1 σ++L)[N]?=some (.cells [yv] 132):=λσ L=>(by rw[fZ,SD];exact pg0 σ _);have qd:∀(σ:S)(L:List aa),(Q1 σ++L)[id]?=some (.cells [iv deep] 3):=λσ L=>(by rw[fZ,SD];exact pd σ _);have q4:∀(σ:S)(L:List aa),(Q1 σ++L)[N+6+M.length+4]?=some pz:=λσ L=>(by rw[fZ,SD,lV];rfl);have qc:∀(σ:S)(L:List aa),(Q1 σ++L)[C]?=L[0]?:=λσ L=>(by rw[<- JI σ];exact aX _ L 0);have MU:∀(σ:S)(L:List aa)(y:aa),(Q1 σ++L).set (N+6+M.length+4) y=(P1 σ++([.cells ((dS h ns).map iv) 86,.cells x.l 76,.cells (tc.map iv) 86,.cells (qs.map λn=>wv n) 81,y]++M2))++L:=λσ L y=>(by rw[fZ,SD,pq];simp);obtain⟨Mz,ER⟩:∃Mz:List aa,∀σ,Q1 σ++[.cells (b.map iv) 86]=Gf σ++Mz:=⟨_,λσ=>by rw[fZ,dt,SD,SD]⟩;have eY:∀(τ:S)(lp:Lp),bP (P1 σ'++([.cells ((dS h ns).map iv) 86,.cells x.l 76,.cells (tc.map iv) 86,.cells (qs.map λn=>wv n) 81,.loop l2 .ready none eQ T2 44 #[33] gA gB (N+4)]++M2))->bP (P1 τ++([.cells ((dS h ns).map iv) 86,.cells x.l 76,.cells (tc.map iv) 86,.cells (qs.map λn=>wv n) 81,.loop l2 lp.st lp.pe eQ T2 44 #[33] gA gB (N+4)]++M2)):=λτ lp gY=>Ac σ' τ _ _ (by simp) (λq hz z fb=>by
      have hl:=hz (.loop l2 .ready none eQ T2 44 #[33] gA gB (N+4)) (by simp);rcases SS.1 fb with h'|h'
      ·simp only[SL,S4,or_false]at h';rcases h' with rfl|rfl|rfl|rfl|rfl
       ·exact hz _ (by simp)
       ·exact hz _ (by simp)
       ·exact hz _ (by simp)
       ·exact hz _ (by simp)
       ·exact hl
      ·exact hz _ (S6 _ h')) gY
     have gn:cW (λm:S×Lp=>P1 m.1++[.cells ((dS h ns).map iv) 86,.cells x.l 76,.cells (tc.map iv) 86,.cells (qs.map λn=>wv n) 81,.loop l2 m.2.st m.2.pe eQ T2 44 #[33] gA gB (N+4)]) pv k2 xY M2 (iN f deep (σ',.ready) b):=lm;have J':∀z:aa,P1 σ'++(aa.cells (U6 iv (dS h ns)) 86::aa.cells x.l 76::aa.cells (U6 iv tc) 86::aa.cells (U6 (λn=>wv n) qs) 81::pz::(M2++[z]))=Q1 σ'++[z]:=λz=>(by rw[fZ];simp);have EF:bP (P1 σ'++([.cells ((dS h ns).map iv) 86,.cells x.l 76,.cells (tc.map iv) 86,.cells (qs.map λn=>wv n) 81,.loop l2 .ready none eQ T2 44 #[33] gA gB (N+4)]++M2))->∀(τ:S)(lp:Lp)(b':Bool)(TT:List (Nat×AV)),k2 (bv b') ((P1 τ++[.cells ((dS h ns).map iv) 86,.cells x.l 76,.cells (tc.map iv) 86,.cells (qs.map λn=>wv n) 81,.loop l2 lp.st lp.pe eQ T2 44 #[33] gA gB (N+4)])++M2)->oK (N+6+M.length+4) C k2 lp.st lp.pe b' ⟨TT,Gf τ++Mz⟩:=λgY τ lp b' TT dD=>by
      refine⟨l2,.busy,none,eQ,T2,44,#[33],gA,gB,N+4,by show (Gf τ++Mz)[_]?=_;rw[<- ER,q4,sJ],?_⟩;show cw C ((Gf τ++Mz).set _ _) _ k2;rw[<- ER,MU];rw[SD]at dD;exact jR (G:=[.cells (b.map iv) 86]) (Wk.refl _) rfl (by rw[hC];simp[ey];omega) (eY τ lp gY) (.val _) dD
     have aiy:bP (P1 σ'++([.cells ((dS h ns).map iv) 86,.cells x.l 76,.cells (tc.map iv) 86,.cells (qs.map λn=>wv n) 81,.loop l2 .ready none eQ T2 44 #[33] gA gB (N+4)]++M2))->∀τ:S,xY pv ((P1 τ++[.cells ((dS h ns).map iv) 86,.cells x.l 76,.cells (tc.map iv) 86,.cells (qs.map λn=>wv n) 81,.loop l2 Lp.busy.st Lp.busy.pe eQ T2 44 #[33] gA gB (N+4)])++M2)->cw C (Gf τ++Mz) pv xY:=λgY τ dD=>by
      rw[<- ER,fZ,sJ];rw[SD]at dD;exact jR (G:=[.cells (b.map iv) 86]) (Wk.refl _) rfl (by rw[hC];simp[ey];omega) (eY τ .busy gY) (nF _) dD
     subst oc xq xu;rw[SD];refine vz (id:=N+6+M.length+4) (by rw[lV];rfl) rfl (by kernel_rfl) λqX Jx=> ?_;simp only[rY];refine ak ?_;simp only[seval,cL,vS];unfold tQ;refine⟨none,eQ,_,44,#[33],_,_,_,by rw[lV];rfl,?_⟩;dsimp only;rw[pq];simp only[UC,TZ];rw[<- sJ];have BM:(P1 σ').length+(M2.length+1+1+1+1+1)=C:=(by rw[ey,hC];omega);rw[BM,J'];refine ak ?_;simp only[seval,qN,qc,cL,vP];rw[SY (i:=11) (l:=b.map iv) (by rw[vP];exact SR _),ER];refine wZ (hY.call σ' b Mz _ _ JC hb ?_);unfold iN at gn;rw[show f (σ',Lp.ready).1 b=f σ' b from rfl]at gn;cases hf:f σ' b with
     |go τ=>
      rw[hf]at gn;dsimp only at gn;simp only[cW];(try simp only[seval,hd]);refine aD ?_;refine⟨λh0=> ?_,λh0=> ?_⟩
      ·replace h0:deep=0:=(by simpa using h0);rw[if_pos h0]at gn;simp only[cW]at gn;refine aZ ?_;exact EF qX τ .ret false _ gn
      ·replace h0:¬deep=0:=(by simpa using h0);rw[if_neg h0]at gn;refine aN ?_;refine ak ?_;simp only[seval,hd];refine aD ?_;refine⟨λh1=> ?_,λh1=> ?_⟩
       ·replace h1:deep=1:=(by simpa using h1);rw[if_pos h1]at gn;simp only[cW]at gn;refine bZ ?_;exact EF qX τ (.exit 3) false _ gn
       ·replace h1:¬deep=1:=(by simpa using h1);rw[if_neg h1]at gn;simp only[cW]at gn;refine aN ?_;exact EF qX τ .ready true _ gn
     |stop τ=>
      rw[hf]at gn;dsimp only at gn;simp only[cW]at gn⊢;(try simp only[seval]);refine aD ?_;refine aZ ?_;exact EF qX τ .ret false _ gn
     |bad τ=>
      rw[hf]at gn;dsimp only at gn;simp only[cW]at gn⊢;exact aiy qX τ gn
    ·obtain⟨σ',lp⟩:=m;obtain⟨τ,C1⟩:=m';unfold iN at he;have hi:=(hY.inv σ' b τ hm.1 hb);cases hf:f σ' b with
     |go τ'=>
      rw[show f (σ',lp).1 b=f σ' b from rfl,hf]at he;dsimp only at he;by_cases h0:deep=0
      ·rw[if_pos h0]at he;cases he
      ·rw[if_neg h0]at he;by_cases h1:deep=1
       ·rw[if_pos h1]at he;cases he
       ·rw[if_neg h1]at he;cases he;exact⟨hi hf,rfl⟩
     |stop τ'=>rw[show f (σ',lp).1 b=f σ' b from rfl,hf]at he;cases he
     |bad τ'=>rw[show f (σ',lp).1 b=f σ' b from rfl,hf]at he;cases he
    ·rcases SS.1 fb with h'|h'
     ·rw[dt]at h';rcases SS.1 h' with h'|h'
      ·exact hY.ok q m.1 m'.1 (λw hw=>hz w (Ti _ (by rw[dt];exact Ti _ hw))) z h'
      ·exact hz z (Ti _ (by rw[dt];exact S6 _ h'))
     ·have hl:=hz _ (S6 _ (Tf (i:=4) rfl));simp only[SL,S4,or_false]at h';rcases h' with rfl|rfl|rfl|rfl|rfl
      ·exact hz _ (S6 _ (by simp))
      ·exact hz _ (S6 _ (by simp))
      ·exact hz _ (S6 _ (by simp))
      ·exact hz _ (S6 _ (by simp))
      ·exact hl
   have e1:pt f deep (uE x h) (σ,.ready) (dS h ns)=kU (bE (iN f deep) ((ie x h ns).map (db h ns)) (σ,.ready)):=(by unfold pt;rw[Lw h4 iZ]);rw[e1]at dD;refine cI (ahB (x:=x) (h:=h) (ns:=ns) (qs:=qs) (N:=N+6+M.length+5) (ir:=N+6+M.length+1) (it:=N+6+M.length+2) (is:=N+6+M.length+3) (tc:=dS h ns) (σ:=(σ,Lp.ready)) hx h4 iZ xo (λtc m L=> ?_) (λtc m L=> ?_) (λtc ek m L=> ?_) (λtc m L=> ?_) zK xL (λq tc ek m hz z fb=> ?_) nF rfl ⟨JB,rfl⟩ (hA ns i_) (λek ato=> ?_))
   ·rw[SD];exact pb _ _ 1
   ·rw[SD];exact pb _ _ 2
   ·rw[SD,<- ey m.1,ec,SD];rfl
   ·rw[SD];exact pb _ _ 3
   ·rcases SS.1 fb with h'|h'
    ·exact hz z (Ti _ h')
    ·simp only[SL,S4,or_false]at h';rcases h' with rfl|rfl|rfl|rfl|rfl
     ·exact hz _ (by simp)
     ·exact hz _ (by simp)
     ·exact anH _ _ _
     ·exact hz _ (by simp)
     ·exact hz _ (by simp)
   have lV:∀(σ:S)(L:List aa),(P1 σ++L)[N+6+M.length+4]?=L[4]?:=λσ L=>pb σ L 4;have pq:∀(σ:S)(L:List aa)(y:aa),(P1 σ++L).set (N+6+M.length+4) y=P1 σ++L.set 4 y:=λσ L y=>(by rw[<- ey σ,ec]);cases cM:bE (iN f deep) ((ie x h ns).map (db h ns)) (σ,.ready)with
   |go m=>
    obtain⟨τ,lp⟩:=m;have gP:lp=.ready:=Ap (I:=λm:S×Lp=>m.2=.ready) (A:=λ_=>True) (λs a s' _ _ e=>arx e) _ _ _ (λ_ _=>trivial) rfl cM;subst gP;rw[cM]at dD;simp only[kU,cW]at dD;simp only[fV,S0];refine⟨.ready,none,_,_,_,_,_,_,_,by rw[lV];rfl,by decide,?_⟩;rw[pq,GQ];(try simp only[seval]);exact Jb n_ τ .ready true _ _ dD
   |stop m=>
    obtain⟨τ,lp⟩:=m;have gP:lp=.ret\/lp=.exit 3:=by
     obtain⟨_,_,q⟩:=M0 cM;exact ary q
    rw[cM]at dD;rcases gP with rfl|rfl
    ·simp only[kU,cW]at dD;simp only[fV,S0];refine⟨.done,some .ret,_,_,_,_,_,_,_,by rw[lV];rfl,by decide,?_⟩;rw[pq,aol];(try simp only[seval]);exact Jb n_ τ .ret false _ _ dD
    ·simp only[kU,cW]at dD;simp only[fV,S0];refine⟨.done,some (.exit 3),_,_,_,_,_,_,_,by rw[lV];rfl,by decide,?_⟩;rw[pq,aok];(try simp only[seval]);exact Jb n_ τ .ready true _ _ dD
   |bad m=>
    obtain⟨τ,lp⟩:=m;rw[cM]at dD;simp only[kU,cW]at dD;simp only[fV,S0];exact aiz n_ τ _ dD
  ·obtain⟨σ',lp⟩:=m;obtain⟨τ,C1⟩:=m';obtain⟨ns,i_,rfl⟩:=ha;have e1:pt f deep (uE x h) (σ',lp) (dS h ns)=kU (bE (iN f deep) ((ie x h ns).map (db h ns)) (σ',.ready)):=(by unfold pt;rw[Lw h4 (Mj i_)]);rw[e1]at he;exact aeF hY.inv (hA ns i_) hm.1 he
  ·rcases SS.1 fb with h'|h'
   ·exact hY.ok q m.1 m'.1 (λw hw=>hz w (Ti _ hw)) z h'
   ·have hl:=hz _ (S6 _ (Tf (i:=5) rfl));simp only[SL,S4,or_false]at h';rcases h' with rfl|rfl|rfl|rfl|rfl|rfl
    ·exact hz _ (S6 _ (by simp))
    ·exact hz _ (S6 _ (by simp))
    ·exact hz _ (S6 _ (by simp))
    ·exact hz _ (S6 _ (by simp))
    ·exact hz _ (S6 _ (by simp))
    ·exact hl
 obtain⟨ee,uw⟩:=adg (f:=f) (deep:=deep) (L:=uE x h) ((fS x h).map (dS h)) σ;rw[<- arC h4]at ee;have g4:∀(σ:S)(L:List aa),(Gf σ++L)[N+4]?=L[4]?:=λσ L=>hY.get σ L 4;have g5:∀(σ:S)(L:List aa),(Gf σ++L)[N+4+1]?=L[5]?:=λσ L=>hY.get σ L 5;have s4:∀(σ:S)(L:List aa) y,(Gf σ++L).set (N+4) y=Gf σ++L.set 4 y:=λσ L y=>hY.set σ L 4 y;have s5:∀(σ:S)(L:List aa) y,(Gf σ++L).set (N+4+1) y=Gf σ++L.set 5 y:=λσ L y=>hY.set σ L 5 y;have rK:∀n,Lt n (.aJ []):=λn=>by simp[je]
 refine cI (ahz (x:=x) (h:=h) (N:=N+6) (ir:=N+2) (ih:=N+3) (σ:=(σ,Lp.ready)) hx hh ajr (λm L=> ?_) (λm L=> ?_) nF ⟨hI,rfl⟩ (λa ha=> ?_) ?_)
 ·rw[SD,hY.get m.1 _ 2];rfl
 ·rw[SD,hY.get m.1 _ 3];rfl
 ·obtain⟨ns,h1,rfl⟩:=Td.1 ha;exact⟨ns,h1,rfl⟩
 cases bK:bE (pt f deep (uE x h)) ((fS x h).map (dS h)) (σ,.ready)with
 |go m=>
  obtain⟨σ',lp⟩:=m;have gP:lp=.ready:=uw _ bK;subst gP;rw[bK]at ee;have aI:=MX (r':=.go σ') ee.symm hk;simp only[fV,S0]at aI⊢;refine⟨.ready,none,_,_,_,_,_,_,_,by rw[g5];rfl,by decide,?_⟩;rw[s5];simp only[UC,TZ];rw[GP];(try simp only[seval]);rw[y9 (by rw[g4];rfl),y_,s4];(try simp only[seval]);rw[<- hN];exact uU hY hH rK aI
 |stop m=>
  obtain⟨σ',lp⟩:=m;have gP:lp=.ret:=by
   obtain⟨_,_,q⟩:=M0 bK;exact aru q
  subst gP;rw[bK]at ee;have aI:=MX (r':=.stop σ') ee.symm hk;simp only[fV,S0]at aI⊢;refine⟨.done,some .ret,_,_,_,_,_,_,_,by rw[g5];rfl,by decide,?_⟩;rw[s5];simp only[UC,TZ];rw[aoj];(try simp only[seval]);rw[y9 (by rw[g4];rfl),y_,s4];(try simp only[seval]);rw[<- hN];exact uU hY hH rK aI
 |bad m=>
  obtain⟨σ',lp⟩:=m;rw[bK]at ee;have aI:=MX (r':=.bad σ') ee.symm hk;simp only[fV,S0]at aI⊢;rw[y9 (by rw[g4];rfl),y_,s4];rw[Ae,<- hN];exact uU hY hH nF aI
end
open Go.Conc Go.Proofs Go.Gg.Tk
namespace Tk
def mJ (x y:Int):Int:=if x<y then -1 else if y<x then 1 else 0
def n3:List Int->List Int->Int
 |a::l,b::m=>if mJ a b≠0 then mJ a b else n3 l m
 |[],[]=>0
 |[],_::_=> -1
 |_::_,[]=>1
def sw (a b:List Int):Bool:=if a.take 4=b.take 4 then(if n3 ((a.drop 4).take 4) ((b.drop 4).take 4)≠0 then decide (n3 ((a.drop 4).take 4) ((b.drop 4).take 4)<0)else decide (n3 (a.drop 8) (b.drop 8)<0))else decide (n3 (a.take 4) (b.take 4)<0)
end Tk
theorem Ez{ca pa ra:List AV}{xs:List Int}{o i:Nat}{x:Int}(hc:ca=pa++(xs.map iv++ra))(ho:pa.length=o)(h:xs[i]?=some x):ca.drop (o+i)=iv x::((xs.drop (i+1)).map iv++ra):=by
 subst hc ho;rw[Vv,TS (by omega),UF,show pa.length+i-pa.length=i by omega,Vv,kX h,show i-(xs.map iv).length=0 by have:=eR h;simp;omega,Xx];rfl
section
variable {lv:Bool}{H:List aa}{k kp:AV->List aa->Prop}
theorem PK{x:Int}(hk:k (bv false) H):bf lv SC 143 H [iv x] k kp:=by
 refine bH (rs:=[.tmp 2]) (nt:=6) Tryz.f143 λhH hA=> ?_;simp only[br,SW];refine aj ?_;refine ak ?_;simp only[seval,bne_self_eq_false];refine aZ ?_;refine bW ?_;simpa using hk
theorem ahF{x y:Int}(hk:k (iv (mJ x y)) H):bf lv SC 142 H [iv x,iv y] k kp:=by
 refine bH (rs:=[.tmp 4]) (nt:=20) Tryz.f142 λhH hA=> ?_;simp only[br,SW];refine aj ?_;refine aj ?_;refine aK ((PK ?_));(try simp only[seval]);refine aj ?_;refine aK ((PK ?_));(try simp only[seval]);refine aj ?_;refine aD ?_;refine aN ?_;refine aj ?_;refine aD ?_;refine aN ?_;refine aj ?_;refine aD ?_;refine⟨λh=> ?_,λh=> ?_⟩
 ·refine aj ?_;refine aZ ?_;rw[mJ,if_pos h]at hk;exact bW hk
 ·refine aN ?_;refine aj ?_;refine aD ?_;refine⟨λh2=> ?_,λh2=> ?_⟩
  ·refine aj ?_;refine aZ ?_;rw[mJ,if_neg h,if_pos h2]at hk;exact bW hk
  ·refine aN ?_;refine aj ?_;refine aZ ?_;rw[mJ,if_neg h,if_neg h2]at hk;exact bW hk
theorem I1{xs ys:List Int}{ia oa ib ob ta tb:Nat}{ca cb pa ra pb rb:List AV}(ha:H[ia]?=some (.cells ca ta))(hb:H[ib]?=some (.cells cb tb))(hca:ca=pa++(xs.map iv++ra))(KO:pa.length=oa)(hcb:cb=pb++(ys.map iv++rb))(hpb:pb.length=ob)(hl:ys.length=xs.length)(h4:xs.length<=4)(hk:k (iv (n3 xs ys)) H):
  bf lv SC 138 H [.bJ ia oa xs.length xs.length,.bJ ib ob ys.length ys.length] k kp:=by
 refine bH (rs:=[.tmp 4]) (nt:=36) Tryz.f138 λhH hA=> ?_;simp only[br,SW];refine aj ?_;refine aj ?_;refine cy ?_;refine pE xs.length (λi:Nat=>[(11,iv i)]) (λ_=>H) (λi=>n3 xs ys=n3 (xs.drop i) (ys.drop i)) rfl (λbU cS i cM hI R hR=> ?_);refine aj ?_;refine aD ?_;refine⟨λh=> ?_,λh=> ?_⟩
 ·have bB:i<xs.length:=by omega
  obtain⟨x,hx⟩:=bX bB;obtain⟨y,hy⟩:=bX (xs:=ys) (i:=i) (by omega);have bN:SF.wrap ((i:Int)+1)=((i+1:Nat):Int):=by rw[bG _ (by omega)];rfl
  have lr:n3 xs ys=if mJ x y≠0 then mJ x y else n3 (xs.drop (i+1)) (ys.drop (i+1)):=by rw[hI,vC hx,vC hy,n3]
  refine aN ?_;refine ak ?_;simp only[seval,ha,jp bB,Ez hca KO hx];refine aj ?_;refine aD ?_;refine⟨λh2=>by exfalso;omega,λh2=> ?_⟩;refine aN ?_;refine ak ?_;simp only[seval,hb,jp (show i<ys.length by omega),Ez hcb hpb hy];refine aj ?_;refine aK ((ahF ?_));(try simp only[seval]);refine aj ?_;refine aD ?_;refine⟨λh3=> ?_,λh3=> ?_⟩
  ·refine aj ?_;refine aZ ?_;rw[lr,if_pos (by simpa using h3)]at hk;exact bW hk
  ·refine aN ?_;refine ak ?_;simp only[seval,bN];refine hR _ ⟨bB,?_,dq⟩;rw[lr,if_neg (by simpa using h3)]
 ·have dw:i=xs.length:=by omega
  subst dw;refine bZ ?_;refine ak ?_;simp only[seval,hl];refine aD ?_;refine⟨λh2=>by exfalso;omega,λh2=> ?_⟩;refine aN ?_;refine aj ?_;refine aZ ?_;rw[hI,X5,TS (WJ hl),n3]at hk;exact bW hk
theorem F.Dw:SC.underlying 83=some (.array 4 3):=by kernel_rfl
theorem F.u3:SC.underlying 3=some (.int .i64):=by kernel_rfl
theorem aeq{P:SJ}{t e:TypeId}{k0:TU}{n:Nat}{xs ys:List Int}(ht:P.underlying t=some (.array n e))(he:P.underlying e=some (.int k0))(hs:(P.info? e).map (·.size)=some 1)(hg:P.eqGuardType P.depth t=false)(hx:xs.length=n)(hy:ys.length=n)(k:AV->Prop):
  dF P .neq t (.agg (xs.map iv)) (.agg (ys.map iv)) k=k (bv (!(xs==ys))):=by
 obtain⟨i,hi,hs⟩:=Ts.1 hs;have CC:=acU ht he hi hs hx hy;have e:dF P .neq t (.agg (xs.map iv)) (.agg (ys.map iv)) k=((Wx=.eql\/Wx=.neq)/\ao (AV.raw (.agg (xs.map iv))) λX=>ao (AV.raw (.agg (ys.map iv))) λY=>yT X Y=true/\P.eqGuardType P.depth t=false/\∃e,cJ P (Xm t X Y) e/\k (.val (.bool (if Wx== .neq then !e else e)))):=rfl;rw[e,ye,ye,Ae,Ae];apply propext;constructor
 ·rintro⟨_,_,_,b,h1,h2⟩
  rw[CC.uniq h1];exact h2
 ·intro h;exact⟨.inr rfl,rfl,hg,_,CC,h⟩
theorem F.i3s:(SC.info? 3).map (·.size)=some 1:=by kernel_rfl
theorem F.g83:SC.eqGuardType SC.depth 83=false:=by kernel_rfl
theorem ahE{a b:List Int}(ha:a.length=11)(hb:b.length=11)(hk:k (bv (sw a b)) H):bf lv SC 128 H [.agg (a.map iv),.agg (b.map iv)] k kp:=by
 refine bH (rs:=[.tmp 4]) (nt:=32) Tryz.f128 λhH hA=> ?_;simp only[br,SW];have ham:(a.map iv).length=11:=by rw[Tp,ha]
 have vP:(b.map iv).length=11:=by rw[Tp,hb]
 have ea:a.map iv=(a.take 4).map iv++(((a.drop 4).take 4).map iv++(a.drop 8).map iv):=by
  rw[<- TF,<- TF];congr 1;have:(a.drop 4).take 4++a.drop 8=a.drop 4:=by
   conv=>rhs;rw[<- Vg 4 (a.drop 4)]
   rw[af_]
  rw[this,Vg]
 have eb:b.map iv=(b.take 4).map iv++(((b.drop 4).take 4).map iv++(b.drop 8).map iv):=by
  rw[<- TF,<- TF];congr 1;have:(b.drop 4).take 4++b.drop 8=b.drop 4:=by
   conv=>rhs;rw[<- Vg 4 (b.drop 4)]
   rw[af_]
  rw[this,Vg]
 refine aj ?_;refine ak ?_;simp only[seval,ham,vP,ha,hb];have FV:(a.take 4).length=4:=by simp[ha]
 have K8:(b.take 4).length=4:=by simp[hb]
 have K6:((a.drop 4).take 4).length=4:=by simp[ha]
 have Sx:((b.drop 4).take 4).length=4:=by simp[hb]
 have K7:(a.drop 8).length=3:=by simp[ha]
 have Sy:(b.drop 8).length=3:=by simp[hb]
 rw[<- VW,<- VW,aeq F.Dw F.u3 F.i3s F.g83 FV K8];refine aD ?_;refine⟨λh=> ?_,λh=> ?_⟩
 ·refine dT 4 ?_;simp only[seval];have c1:=λk kp=>I1 (lv:=lv) (k:=k) (kp:=kp) (H:=H++[.cells (a.map iv) 86,.cells (b.map iv) 86]) (xs:=a.take 4) (ys:=b.take 4) (ia:=H.length) (ib:=H.length+1) (oa:=0) (ob:=0) (pa:=[]) (pb:=[]) (aX H _ 0) (aX H _ 1) ea rfl eb rfl (by rw[FV,K8]) (by rw[FV];exact SR _);simp only[FV,K8]at c1;refine aK ((c1 _ _ ?_));(try simp only[seval]);refine aZ ?_;rw[sw,if_neg (by simpa using h)]at hk;exact lE hH hk
 ·have h:=(by simpa using h:a.take 4=b.take 4);rw[sw,if_pos h]at hk;refine aN ?_;refine dT 4 ?_;simp only[seval];have c2:=λk kp=>I1 (lv:=lv) (k:=k) (kp:=kp) (H:=H++[.cells (a.map iv) 86,.cells (b.map iv) 86]) (xs:=(a.drop 4).take 4) (ys:=(b.drop 4).take 4) (ia:=H.length) (ib:=H.length+1) (oa:=4) (ob:=4) (pa:=(a.take 4).map iv) (pb:=(b.take 4).map iv) (aX H _ 0) (aX H _ 1) ea (by simp[ha]) eb (by simp[hb]) (by rw[K6,Sx]) (by rw[K6];exact SR _);simp only[K6,Sx]at c2;refine aK ((c2 _ _ ?_));(try simp only[seval]);refine aj ?_;refine aD ?_;refine⟨λh2=> ?_,λh2=> ?_⟩
  ·refine aj ?_;refine aZ ?_;rw[if_pos (by simpa using h2)]at hk;exact lE hH hk
  ·refine aN ?_;rw[if_neg (by simpa using h2)]at hk;refine dT 4 ?_;simp only[seval];have c3:=λk kp=>I1 (lv:=lv) (k:=k) (kp:=kp) (H:=H++[.cells (a.map iv) 86,.cells (b.map iv) 86]) (xs:=a.drop 8) (ys:=b.drop 8) (ia:=H.length) (ib:=H.length+1) (oa:=8) (ob:=8) (pa:=(a.take 4).map iv++((a.drop 4).take 4).map iv) (pb:=(b.take 4).map iv++((b.drop 4).take 4).map iv) (ra:=[]) (rb:=[]) (aX H _ 0) (aX H _ 1) (by rw[ea];simp) (by simp[ha]) (by rw[eb];simp) (by simp[hb]) (by rw[K7,Sy]) (by rw[K7];omega);simp only[K7,Sy]at c3;refine aK ((c3 _ _ ?_));(try simp only[seval]);refine aZ ?_;exact lE hH hk
end
open Go.Conc Go.Proofs Go.Gg.Tk
theorem Gs{α:Type}{g:α->AV}{ca pa ra:List AV}{xs:List α}{o i:Nat}{x:α}(hc:ca=pa++(xs.map g++ra))(ho:pa.length=o)(h:xs[i]?=some x):ca.drop (o+i)=g x::((xs.drop (i+1)).map g++ra):=by
 subst hc ho;rw[Vv,TS (by omega),UF,show pa.length+i-pa.length=i by omega,Vv,yS h,show i-(xs.map g).length=0 by have:=eR h;simp;omega,Xx];rfl
theorem Gt{α:Type}{g:α->AV}{ca pa ra:List AV}{xs:List α}{o i:Nat}{y:α}(hc:ca=pa++(xs.map g++ra))(ho:pa.length=o)(h:i<xs.length):ca.take (o+i)++[g y]++ca.drop (o+i+1)=pa++((xs.set i y).map g++ra):=by
 subst hc ho;have h1:(pa++(xs.map g++ra)).take (pa.length+i)=pa++(xs.map g).take i:=by
  rw[List.take_append,SY (by omega),show pa.length+i-pa.length=i by omega,Tw (by simp;omega)]
 have h2:(pa++(xs.map g++ra)).drop (pa.length+i+1)=(xs.map g).drop (i+1)++ra:=by
  rw[Vv,TS (by omega),UF,show pa.length+i+1-pa.length=i+1 by omega,Wr (by simp;omega)]
 rw[h1,h2,<- M7 h];simp[SD]
namespace Tk
def Kn.l (F:Kn)(mp:Nat):List AV:=bv F.has:: .mp mp::(F.ay.map (λn=>wv n)++(F.hours.map (λn=>wv n)++(F.less.map (λn=>wv n)++(F.aU.map (λn=>wv n)++F.first.map iv))))
structure bI (F:Kn):Prop where
 ay:F.ay.length=4
 hours:F.hours.length=4
 less:F.less.length=4
 aU:F.aU.length=3
 first:F.first.length=11
 mu:∀n∈F.ay,n<65536
 l_:∀n∈F.hours,n<65536
 mS:∀n∈F.less,n<65536
 lT:∀n∈F.aU,n<65536
 h4:∀h∈F.aL,h.length=4
theorem Kn.len{F:Kn}(h:bI F)(mp:Nat):(F.l mp).length=28:=by simp[Kn.l,h.ay,h.hours,h.less,h.aU,h.first]
theorem Kn.Gy{F:Kn}{mp p n:Nat}(h:F.ay[p]?=some n):(F.l mp).drop (2+p)=wv n::((F.ay.drop (p+1)).map (λn=>wv n)++(F.hours.map (λn=>wv n)++(F.less.map (λn=>wv n)++(F.aU.map (λn=>wv n)++F.first.map iv)))):=Gs (pa:=[bv F.has,.mp mp]) rfl rfl h
theorem Kn.abl{F:Kn}{mp p v:Nat}(h:p<F.ay.length):(F.l mp).take (2+p)++[wv v]++(F.l mp).drop (2+p+1)=({F with ay:=F.ay.set p v}:Kn).l mp:=Gt (g:=λn=>wv n) (pa:=[bv F.has,.mp mp]) rfl rfl h
theorem Kn.FF{F:Kn}(k:bI F){mp p n:Nat}(h:F.hours[p]?=some n):(F.l mp).drop (6+p)=wv n::((F.hours.drop (p+1)).map (λn=>wv n)++(F.less.map (λn=>wv n)++(F.aU.map (λn=>wv n)++F.first.map iv))):=Gs (pa:=bv F.has:: .mp mp::F.ay.map (λn=>wv n)) rfl (by simp[k.ay]) h
theorem Kn.Sb{F:Kn}(k:bI F){mp p v:Nat}(h:p<F.hours.length):(F.l mp).take (6+p)++[wv v]++(F.l mp).drop (6+p+1)=({F with hours:=F.hours.set p v}:Kn).l mp:=Gt (g:=λn=>wv n) (pa:=bv F.has:: .mp mp::F.ay.map (λn=>wv n)) rfl (by simp[k.ay]) h
theorem Kn.LZ{F:Kn}(k:bI F){mp p n:Nat}(h:F.less[p]?=some n):(F.l mp).drop (10+p)=wv n::((F.less.drop (p+1)).map (λn=>wv n)++(F.aU.map (λn=>wv n)++F.first.map iv)):=Gs (pa:=bv F.has:: .mp mp::(F.ay.map (λn=>wv n)++F.hours.map (λn=>wv n))) (by simp[Kn.l]) (by simp[k.ay,k.hours]) h
theorem Kn.aaF{F:Kn}(k:bI F){mp p v:Nat}(h:p<F.less.length):(F.l mp).take (10+p)++[wv v]++(F.l mp).drop (10+p+1)=({F with less:=F.less.set p v}:Kn).l mp:=by
 have:=Gt (g:=λn=>wv n) (ca:=F.l mp) (y:=v) (pa:=bv F.has:: .mp mp::(F.ay.map (λn=>wv n)++F.hours.map (λn=>wv n))) (ra:=F.aU.map (λn=>wv n)++F.first.map iv) (by simp[Kn.l]) (show _=10 by simp[k.ay,k.hours]) h;rw[this];simp[Kn.l]
theorem Kn.Db{F:Kn}(k:bI F){mp p n:Nat}(h:F.aU[p]?=some n):(F.l mp).drop (14+p)=wv n::((F.aU.drop (p+1)).map (λn=>wv n)++F.first.map iv):=Gs (pa:=bv F.has:: .mp mp::(F.ay.map (λn=>wv n)++(F.hours.map (λn=>wv n)++F.less.map (λn=>wv n)))) (by simp[Kn.l]) (by simp[k.ay,k.hours,k.less]) h
theorem Kn.abD{F:Kn}(k:bI F){mp p v:Nat}(h:p<F.aU.length):(F.l mp).take (14+p)++[wv v]++(F.l mp).drop (14+p+1)=({F with aU:=F.aU.set p v}:Kn).l mp:=by
 have:=Gt (g:=λn=>wv n) (ca:=F.l mp) (y:=v) (pa:=bv F.has:: .mp mp::(F.ay.map (λn=>wv n)++(F.hours.map (λn=>wv n)++F.less.map (λn=>wv n)))) (ra:=F.first.map iv) (by simp[Kn.l]) (show _=14 by simp[k.ay,k.hours,k.less]) h;rw[this];simp[Kn.l]
theorem Kn.BI{F:Kn}{mp:Nat}:(F.l mp)[0]?=some (bv F.has):=rfl
theorem Kn.agP{F:Kn}{mp:Nat}:(F.l mp).drop 1=.mp mp::(F.ay.map (λn=>wv n)++(F.hours.map (λn=>wv n)++(F.less.map (λn=>wv n)++(F.aU.map (λn=>wv n)++F.first.map iv)))):=rfl
theorem Kn.aqa{F:Kn}{mp:Nat}:(F.l mp).take 0++[bv true]++(F.l mp).drop (0+1)=({F with has:=true}:Kn).l mp:=rfl
theorem Kn.acf{F:Kn}(k:bI F){mp:Nat}{t:List Int}(ht:t.length=11):(F.l mp).take 17++t.map iv++(F.l mp).drop (17+11)=({F with first:=t}:Kn).l mp:=by
 have e:F.l mp=(bv F.has:: .mp mp::(F.ay.map (λn=>wv n)++(F.hours.map (λn=>wv n)++(F.less.map (λn=>wv n)++F.aU.map (λn=>wv n)))))++F.first.map iv:=by simp[Kn.l]
 have hl:(bv F.has::AV.mp mp::(F.ay.map (λn=>wv n)++(F.hours.map (λn=>wv n)++(F.less.map (λn=>wv n)++F.aU.map (λn=>wv n))))).length=17:=by simp[k.ay,k.hours,k.less,k.aU]
 rw[TS (by rw[Kn.len k];omega),e,Tw (by omega),SY (by omega),S0];simp[Kn.l]
structure jn (x:ai)(t:List Int):Prop where
 len:t.length=11
 aO:mB (t.take 4)
 num:∀p,p<x.pieces.length->∃n:Nat,t[4+p]?=some (n:Int)/\n<9/\0<=gw (t.take 4) (n+t.getD 0 0)
 own:∀s,s<x.aB.length->∃o:Nat,t[8+s]?=some (o:Int)/\o<4
end Tk
def setH (hs:List (List Int)):aa:=.obj (.map (hs.zipIdx.map eC).toArray hs.length)
theorem qt{H:List aa}{i:Nat}{x:aa}(h:H[i]?=some x):H.set i x=H:=by
 apply Yo;intro j;rw[UU];split
 ·rename_i e;subst e;rw[if_pos (eR h)];exact h.symm
 ·rfl
theorem uX{H L:List aa}{i:Nat}{x:aa}(h:i<H.length):(H++L).set i x=H.set i x++L:=WB _ _ h
section
variable {lv:Bool}{H:List aa}{k kp:AV->List aa->Prop}
theorem OF{F:Kn}{t:List Int}(h:bI F)(ht:t.length=11):bI (jO F t):=by
 unfold jO;split
 ·exact h
 ·exact⟨h.ay,h.hours,h.less,h.aU,ht,h.mu,h.l_,h.mS,h.lT,h.h4⟩
theorem C2{l:List Nat}{i v:Nat}(h:∀n∈l,n<65536)(hv:v<65536):∀n∈l.set i v,n<65536:=λn hn=>by
 rcases UJ hn with h'|rfl
 ·exact h n h'
 ·exact hv
theorem Tk.bI.Dk{G:Kn}(h:bI G){i v:Nat}(hv:v<65536):bI {G with aU:=G.aU.set i v}:=⟨h.ay,h.hours,h.less,by simp[h.aU],h.first,h.mu,h.l_,h.mS,C2 h.lT hv,h.h4⟩
theorem Tk.bI.ack{G:Kn}(h:bI G){i v:Nat}(hv:v<65536):bI {G with ay:=G.ay.set i v}:=⟨by simp[h.ay],h.hours,h.less,h.aU,h.first,C2 h.mu hv,h.l_,h.mS,h.lT,h.h4⟩
theorem Tk.bI.aci{G:Kn}(h:bI G){i v:Nat}(hv:v<65536):bI {G with hours:=G.hours.set i v}:=⟨h.ay,by simp[h.hours],h.less,h.aU,h.first,h.mu,C2 h.l_ hv,h.mS,h.lT,h.h4⟩
theorem Tk.bI.acj{G:Kn}(h:bI G){i v:Nat}(hv:v<65536):bI {G with less:=G.less.set i v}:=⟨h.ay,h.hours,by simp[h.less],h.aU,h.first,h.mu,h.l_,C2 h.mS hv,h.lT,h.h4⟩
theorem Eb{l:List Nat}{i n v:Nat}(h:l[i]?=some n):oL l i v=l.set i (n|||2^v):=by
 unfold oL;rw[SE,h];rfl
theorem ach(hs:List (List Int)):setH hs=.obj (.map (hs.zipIdx.map eC).toArray hs.length):=rfl
theorem acg(hs:List (List Int))(h:List Int):setH (hs++[h])=.obj (.map ((hs.zipIdx++[(h,hs.length)]).map eC).toArray (hs.length+1)):=by
 rw[ach,List.zipIdx_append,SO];simp
theorem DL{α:Type}{l:List α}{y:α×Nat}(h:y∈l.zipIdx):y.1∈l:=by
 obtain⟨a,b⟩:=y;have:=List.mem_zipIdx h;simp at this;rw[this.2];exact VQ _
theorem Jc{x:List Int}{hs:List (List Int)}:(pK x hs.zipIdx 0=none/\x∉hs)\/(∃i b,pK x hs.zipIdx 0=some (i,.bool true)/\hs.zipIdx[i]?=some (x,b)/\x∈hs):=by
 cases h:pK x hs.zipIdx 0 with
 |none=>
  refine .inl ⟨rfl,λhm=> ?_⟩;obtain⟨i,hi⟩:=UO.1 hm;have:(x,i)∈hs.zipIdx:=UO.2 ⟨i,by rw[List.getElem?_zipIdx,hi];simp⟩;exact P4 h _ this rfl
 |some p=>
  obtain⟨i,v⟩:=p;obtain⟨b,_,h2,rfl⟩:=P5 h;rw[Z3]at h2;exact .inr ⟨i,b,rfl,h2,DL (y:=(x,b)) (Tf h2)⟩
theorem F.i3:∃i,SC.info? 3=some i/\i.size=1:=by
 obtain⟨i,h1,h2⟩:=Ts.1 F.i3s;exact⟨i,h1,h2⟩
theorem uV{H L:List aa}{i:Nat}{z:aa}(h:i<H.length):(H.set i z++L)[i]?=some z:=by
 rw[SX (by simpa using h),UU,if_pos rfl,if_pos h]
theorem uW{H L:List aa}{i:Nat}{z y:aa}(h:i<H.length):(H.set i z++L).set i y=H.set i y++L:=by
 rw[uX (by simpa using h),W8]
theorem aio{x:ai}{t:List Int}{deep:Int}{fp mp:Nat}{Q:Kn}(hx:x.Ok)(ht:jn x t)(hQ:bI Q)(mc:fp≠mp)(hf:H[fp]?=some (.cells (Q.l mp) 88))(hm:H[mp]?=some (setH Q.aL))(hk:k (.aJ []) ((H.set fp (.cells ((ep x deep Q t).l mp) 88)).set mp (setH (ep x deep Q t).aL))):bf lv SC 99 H [.op fp 0,x.av,.agg (t.map iv),iv deep] k kp:=by
 refine bH (rs:=[]) (nt:=135) Tryz.f99 λhH hA=> ?_;simp only[br,SW,ai.av];have j6:=ht.len;have Jt:(t.map iv).length=11:=by rw[Tp,j6]
 have mb:=eR hf;have Cl:=eR hm;have RF:=Kn.len hQ mp;have bS:x.l=[iv x.first,iv x.hours,iv x.am,dY x.seen,bp x.pieces,bp x.aB]:=rfl;have du:∀(L:List aa) i,(H++L)[H.length+i]?=L[i]?:=λL i=>aX H L i;obtain⟨R1,pN⟩:∃R1,R1=jO Q t:=⟨_,rfl⟩;have nu:bI R1:=by rw[pN];exact OF hQ j6
 have BW:R1.aL=Q.aL:=by rw[pN];unfold jO;split<;>rfl
 obtain⟨H1,lG⟩:∃H1,H1=H.set fp (.cells (R1.l mp) 88):=⟨_,rfl⟩;have cN:H1.length=H.length:=by rw[lG,TQ]
 have xh:H1[fp]?=some (.cells (R1.l mp) 88):=by rw[lG,UU,if_pos rfl,if_pos mb]
 have EL:H1[mp]?=some (setH R1.aL):=by rw[lG,T6 mc,BW];exact hm
 have akG:∀G:Kn,∀hs:List (List Int),bP ((H1.set fp (.cells (G.l mp) 88)).set mp (setH hs)):=λG hs=>by
  have hl:((H1.set fp (.cells (G.l mp) 88)).set mp (setH hs)).length=H.length:=by rw[TQ,TQ,cN]
  intro z hz;rw[hl];rcases UJ hz with hz|rfl
  ·rcases UJ hz with hz|rfl
   ·rw[lG]at hz;rcases UJ hz with hz|rfl
    ·exact hH z hz
    ·intro a ha;simp only[Kn.l,SL,SS,Td]at ha;rcases ha with rfl|rfl|⟨_,_,rfl⟩|⟨_,_,rfl⟩|⟨_,_,rfl⟩|⟨_,_,rfl⟩|⟨_,_,rfl⟩
     ·exact .val _
     ·exact .mp (by omega)
     all_goals exact .val _
   ·intro a ha;simp only[Kn.l,SL,SS,Td]at ha;rcases ha with rfl|rfl|⟨_,_,rfl⟩|⟨_,_,rfl⟩|⟨_,_,rfl⟩|⟨_,_,rfl⟩|⟨_,_,rfl⟩
    ·exact .val _
    ·exact .mp (by omega)
    all_goals exact .val _
  ·trivial
 have gO:k (.aJ []) ((H1.set fp (.cells ((ep x deep Q t).l mp) 88)).set mp (setH (ep x deep Q t).aL)):=by rw[lG,W8];exact hk
 have ee:∀(G:Kn)(hs:List (List Int))(L:List aa),ep x deep Q t=G->G.aL=hs->cw H1.length ((H1.set fp (.cells (G.l mp) 88)).set mp (setH hs)++L) (.aJ []) k:=λG hs L hG gg=>by
  subst hG gg;exact jR (Wk.refl _) rfl (by rw[TQ,TQ,cN];exact SR _) (akG _ _) (by simp[je]) gO
 have aF:ep x deep Q t=(if deep=2 then{R1 with aU:=mU t x.aB.length R1.aU}else if deep=0 then{R1 with aL:=jF R1.aL (t.take 4)}else{R1 with ay:=rL t x.pieces.length R1.ay,hours:=rq t x.pieces.length R1.hours,less:=x6 t x.pieces.length x.pieces.length R1.less}):=by rw[pN];rfl
 rw[aF]at ee;clear hk gO aF;refine aj ?_;refine ak ?_;simp only[seval,fI hf,Kn.BI];refine aD ?_;refine⟨λhc=> ?ga,λhc=> ?gb⟩
 case' ga=>
  have e1:R1={Q with has:=true,first:=t}:=by rw[pN];unfold jO;rw[hc];rfl
  have eH:∀L:List aa,(H++L).set fp (.cells (({Q with has:=true}:Kn).l mp) 88)=H.set fp (.cells (({Q with has:=true}:Kn).l mp) 88)++L:=λL=>uX mb;have ET:bI {Q with has:=true}:=⟨hQ.ay,hQ.hours,hQ.less,hQ.aU,hQ.first,hQ.mu,hQ.l_,hQ.mS,hQ.lT,hQ.h4⟩;have akl:=Kn.len ET mp;have G2:=Kn.acf ET (mp:=mp) (t:=t) j6;have zQ:Uq 11 (t.map iv)=t.map iv:=SY (by omega);have aj6:∀(z:aa)(L:List aa),(H.set fp z++L)[H.length+1]?=L[1]?:=λz L=>by have:=aX (H.set fp z) L 1;rwa [TQ]at this
  refine qK [5,8] [0,1,2,3,4,5,6,7,8] [⟨0,false,[],[]⟩,⟨1,false,[],[([5],[5])]⟩,⟨2,false,[],[([5],[5])]⟩,⟨3,false,[],[]⟩,⟨4,false,[],[]⟩,⟨5,true,[5],[]⟩,⟨6,false,[5],[]⟩,⟨7,false,[5],[]⟩,⟨8,true,[5,8],[]⟩] (λD=>bif isDone 8 D then H1++[.cells x.l 76,.cells (t.map iv) 86]else bif isDone 5 D then H.set fp (.cells (({Q with has:=true}:Kn).l mp) 88)++[.cells x.l 76,.cells (t.map iv) 86]else H++[.cells x.l 76,.cells (t.map iv) 86]) ?_;simp only[seval,fI hf,uV mb,uW mb,uX mb,RF,akl,j6,Jt,zQ,aj6];have eL:(AV.val (.bool true)::(Uq 16 (UD 1 (Q.l mp))++t.map iv++UD 27 (UD 1 (Q.l mp))))=R1.l mp:=by rw[e1];exact G2
  refine⟨by rfl,by rw[Ul,RF];omega,by rw[eL,lG],?_⟩;rw[eL,<- lG,<- cN]
 case' gb=>
  have e1:R1=Q:=by rw[pN];unfold jO;rw[hc];rfl
  have IR:H1=H:=by rw[lG,e1];exact qt hf
  refine aN ?_;rw[<- IR]
 all_goals
  clear hc e1;have lJ:fp<H1.length:=by omega
  have aT:∀(L:List aa),(H1++L)[H1.length]?=L[0]?:=λL=>aX H1 L 0;have dg:∀(L:List aa),(H1++L)[H1.length+1]?=L[1]?:=λL=>aX H1 L 1;have dK:∀(z:aa)(L:List aa),(H1.set fp z++L)[H1.length]?=L[0]?:=λz L=>by have:=aX (H1.set fp z) L 0;rwa [TQ]at this
  have dL:∀(z:aa)(L:List aa),(H1.set fp z++L)[H1.length+1]?=L[1]?:=λz L=>by have:=aX (H1.set fp z) L 1;rwa [TQ]at this
  have FO:∀G:Kn,G.aL=R1.aL->(H1.set fp (.cells (G.l mp) 88)).set mp (setH R1.aL)=H1.set fp (.cells (G.l mp) 88):=λG _=>qt (by rw[T6 mc];exact EL);refine aj ?_;refine aj ?_;refine aD ?_;refine⟨λh2=> ?_,λh2=> ?_⟩
  ·
   replace h2:deep=2:=(by simpa using h2);have xN:=hx.eK;rw[if_pos h2]at ee;refine ak ?_;simp only[seval,aT,bS,bp];refine cy ?_;refine gL x.aB.length (λi:Nat=>[(30,iv i)]) (λi=>H1.set fp (.cells (({R1 with aU:=mU t i R1.aU}:Kn).l mp) 88)++[.cells x.l 76,.cells (t.map iv) 86]) (λi=>bI {R1 with aU:=mU t i R1.aU}) (λ_ _=>rfl) (by simp only[seval];simp[bz,Wk.refl]) (by rw[show ({R1 with aU:=mU t 0 R1.aU}:Kn)=R1 from rfl,qt xh];rfl) (λ_ _ _=>by simp) nu (λbU cS i cM az R hR=> ?_);refine aj ?_;refine aD ?_;refine⟨λh3=> ?_,λh3=> ?_⟩
   ·have bB:i<x.aB.length:=(by omega);obtain⟨o,ho,ho4⟩:=ht.own i bB;have qg:rS t i=o:=(by unfold rS;rw[SE,ho];rfl);obtain⟨n,hn⟩:=bX (xs:=mU t i R1.aU) (i:=i) (by have:=az.aU;simp only at this;omega);have Cn:n<65536:=az.lT n (Tf hn);have b3:(0<=(i:Int)/\(i:Int)<3)=True:=(by simp;omega);have bN:SF.wrap ((i:Int)+1)=((i+1:Nat):Int):=(by rw[bG _ (by omega)];rfl);have zH:=Kn.Db az (mp:=mp) (p:=i) (n:=n) hn;have ru:=Kn.abD az (mp:=mp) (p:=i) (v:=n|||2^o) (eR hn);have cO:=Kn.len az mp;refine aN ?_;refine aj ?_;refine dT 15 ?_;simp only[seval,dL,uV lJ,uW lJ,b3,zH,kX ho];refine ii (wv (n|||2^o)) (cI (ub Cn (show o<16 by omega) ⟨rfl,rfl⟩)) ?_;(try simp only[seval,uV lJ,uW lJ,b3,cO]);refine⟨by omega,?_⟩;rw[ru];refine ak ?_;simp only[seval,bN];have da:mU t (i+1) R1.aU=(mU t i R1.aU).set i (n|||2^o):=(by rw[mU,qg,Eb hn]);refine hR _ ⟨bB,?_,?_⟩
    ·rw[da];exact az.Dk (pn Cn (wE (by omega)))
    ·rw[da];exact dq
   ·have dw:i=x.aB.length:=(by omega);subst dw;have:=ee _ R1.aL [.cells x.l 76,.cells (t.map iv) 86] rfl rfl;rw[FO {R1 with aU:=mU t x.aB.length R1.aU} rfl]at this;refine bZ ?_;refine aZ ?_;exact this
  ·replace h2:¬deep=2:=(by simpa using h2);rw[if_neg h2]at ee;refine aj ?_;refine aD ?_;refine⟨λh3=> ?_,λh3=> ?_⟩
   ·
    replace h3:deep=0:=(by simpa using h3);rw[if_pos h3]at ee;have CE:(t.take 4).length=4:=(by simp[j6]);have sW:∀L:List aa,(H1++L)[mp]?=some (.obj (.map (R1.aL.zipIdx.map eC).toArray R1.aL.length)):=λL=>fI EL;have hfp:∀L:List aa,(H1++L)[fp]?=some (.cells (R1.l mp) 88):=λL=>fI xh;have RV:mp<H1.length:=(by omega);obtain⟨i3,pU,o4⟩:=F.i3;have Ju:∀y∈R1.aL.zipIdx,y.1.length=4:=λy hy=>nu.h4 _ (DL hy);have Fi:=acW (ts:=R1.aL.zipIdx) F.Dw F.u3 pU o4 CE Ju;have Fe:=λb=>acS (b:=b) (k:=.i64) (d:=9998) F.Dw F.u3 pU o4 CE;refine dT 6 ?_;simp only[seval,hfp,dg,sW,Kn.agP,j6,Jt];rw[<- VW];refine eg (ye _) (eg rfl ⟨Fe _,_,Fi,?_,?_⟩)
    ·intro i v xD;rcases Jc (x:=t.take 4) (hs:=R1.aL)with⟨h,_⟩|⟨i',b,h,h2,_⟩
     ·rw[h]at xD;cases xD
     ·rw[h]at xD;cases xD;rw[To,h2];exact apP _
    ·rcases Jc (x:=t.take 4) (hs:=R1.aL)with⟨h,hn⟩|⟨i',b,h,h2,hn⟩
     ·rw[h,abK,uX RV];have:=ee _ _ [.cells x.l 76,.cells (t.map iv) 86] rfl rfl;rw[show jF R1.aL (t.take 4)=R1.aL++[t.take 4] by rw[jF,if_neg hn],acg]at this;rw[show H1.set fp (.cells (({R1 with aL:=R1.aL++[t.take 4]}:Kn).l mp) 88)=H1 from qt xh]at this;refine aZ ?_;exact this
     ·rw[h,aov h2,uX RV];have:=ee _ _ [.cells x.l 76,.cells (t.map iv) 86] rfl rfl;rw[show jF R1.aL (t.take 4)=R1.aL by rw[jF,if_pos hn],ach]at this;rw[show H1.set fp (.cells (({R1 with aL:=R1.aL}:Kn).l mp) 88)=H1 from qt xh]at this;refine aZ ?_;exact this
   ·
    replace h3:¬deep=0:=(by simpa using h3);rw[if_neg h3]at ee;refine aN ?_;have mh:=hx.c9;obtain⟨P,hP⟩:∃P:Nat->Kn,∀p,P p={R1 with ay:=rL t p R1.ay,hours:=rq t p R1.hours,less:=x6 t x.pieces.length p R1.less}:=⟨_,λ_=>rfl⟩;obtain⟨P',ES⟩:∃P':Nat->Nat->Kn,∀p q,P' p q={R1 with ay:=rL t (p+1) R1.ay,hours:=rq t (p+1) R1.hours,less:=wj t p q (x6 t x.pieces.length p R1.less)}:=⟨_,λ_ _=>rfl⟩;have QM:P 0=R1:=(by rw[hP];rfl);have hPs:∀p,P' p x.pieces.length=P (p+1):=λp=>(by rw[hP,ES];rfl);refine ak ?_;simp only[seval,aT,bS,bp];refine cy ?_;refine gL x.pieces.length (λi:Nat=>[(62,iv i)]) (λi=>H1.set fp (.cells ((P i).l mp) 88)++[.cells x.l 76,.cells (t.map iv) 86]) (λi=>bI (P i)) (λ_ _=>rfl) (by simp only[seval];simp[bz,Wk.refl]) (by rw[QM,qt xh];rfl) (λ_ _ _=>by simp) (by rw[QM];exact nu) (λbU cS p cM az R hR=> ?_);refine aj ?_;refine aD ?_;refine⟨λh=> ?_,λh=> ?_⟩
    ·have cO:p<x.pieces.length:=(by omega);obtain⟨o,ho,ho9,qg⟩:=ht.num p cO;obtain⟨n,hn⟩:=bX (xs:=(P p).ay) (i:=p) (by have:=az.ay;omega);obtain⟨m,fN⟩:=bX (xs:=(P p).hours) (i:=p) (by have:=az.hours;omega);have Cn:n<65536:=az.mu n (Tf hn);have RN:m<65536:=az.l_ m (Tf fN);have b4:(0<=(p:Int)/\(p:Int)<4)=True:=(by simp;omega);have bN:SF.wrap ((p:Int)+1)=((p+1:Nat):Int):=(by rw[bG _ (by omega)];rfl);have zH:=Kn.Gy (mp:=mp) hn;have ru:=Kn.abl (mp:=mp) (p:=p) (v:=n|||2^o) (eR hn);have KQ:=Kn.len az mp;have lP:iA t p=o:=(by unfold iA;rw[SE,ho];rfl);refine aN ?_;refine aj ?_;refine dT 15 ?_;simp only[seval,dL,uV lJ,uW lJ,b4,zH,kX ho];refine ii (wv (n|||2^o)) (cI (ub Cn (show o<16 by omega) ⟨rfl,rfl⟩)) ?_;(try simp only[seval,uV lJ,uW lJ,b4,KQ]);refine⟨by omega,?_⟩;rw[ru];obtain⟨c0,xv⟩:=bX (xs:=t) (i:=0) (by omega);have Fb:t.getD 0 0=c0:=(by rw[SE,xv];rfl);rw[Fb]at qg;have Q8:c0∈t.take 4:=by
      match t,j6,xv with
      |a::t',_,xv=>cases xv;simp
     have oX:=ht.aO.lo c0 Q8;have Fo:=ht.aO.hi c0 Q8;have g_:SF.wrap ((o:Int)+c0)=(o:Int)+c0:=bG _ (by omega);have ajE:(t.map iv)[0]?=some (iv c0):=(by rw[To,xv];rfl);obtain⟨u,hu⟩:=Int.eq_ofNat_of_zero_le qg;have hu4:u<4:=by
      have h5:gw (t.take 4) ((o:Int)+c0)<0+(t.take 4).length:=adb;rw[ht.aO.len,hu]at h5;omega
     have hth:tG t p=u:=by
      unfold tG;rw[SE,ho,Fb];simp only[S8];rw[hu];rfl
     obtain⟨G1,BP⟩:∃G1,G1=({P p with ay:=(P p).ay.set p (n|||2^o)}:Kn):=⟨_,rfl⟩;have BR:bI G1:=(by rw[BP];exact az.ack (pn Cn (wE (by omega))));have Kx:G1.hours[p]?=some m:=(by rw[BP];exact fN);rw[<- BP];have Sj:=Kn.FF BR (mp:=mp) Kx;have Sl:=Kn.Sb BR (mp:=mp) (p:=p) (v:=m|||2^u) (eR Kx);have Sk:=Kn.len BR mp;refine dT 22 ?_;simp only[seval,dL,uV lJ,uW lJ,b4,Sj,kX ho,Jt,j6,g_];rw[<- VW];refine eg ajE ?_;(try simp only[seval,g_]);refine ii (iv u) (cI (P0 (h:=t.take 4) (n:=(o:Int)+c0) ht.aO.len ⟨by rw[hu],rfl⟩)) ?_;refine ii (wv (m|||2^u)) (cI (ub RN (show u<16 by omega) ⟨rfl,rfl⟩)) ?_;(try simp only[seval,uV lJ,uW lJ,b4,Sk]);refine⟨by omega,?_⟩;rw[Sl];have JH:({G1 with hours:=G1.hours.set p (m|||2^u)}:Kn)=P' p 0:=by
      rw[BP,ES];simp only[hP]at hn fN⊢;rw[rL,lP,Eb hn,rq,hth,Eb fN];rfl
     have ajq:bI (P' p 0):=(by rw[<- JH];exact BR.aci (pn RN (wE (by omega))));rw[JH];clear ru zH KQ BR Kx Sj Sl Sk JH BP hn fN az;refine ak ?_;simp only[seval,dK,bS,bp];refine cy ?_;refine gL x.pieces.length (λi:Nat=>[(108,iv i)]) (λi=>H1.set fp (.cells ((P' p i).l mp) 88)++[.cells x.l 76,.cells (t.map iv) 86]) (λi=>bI (P' p i)) (λ_ _=>rfl) (by simp only[seval];simp[bz,Wk.refl]) rfl (λ_ _ _=>by simp) ajq (λQI as7 q FM o1 R' QO=> ?_);refine aj ?_;refine aD ?_;refine⟨λh=> ?_,λh=> ?_⟩
     ·have kF:q<x.pieces.length:=(by omega);obtain⟨o2,R5,atj,_⟩:=ht.num q kF;have b4q:(0<=(q:Int)/\(q:Int)<4)=True:=(by simp;omega);have v_:SF.wrap ((q:Int)+1)=((q+1:Nat):Int):=(by rw[bG _ (by omega)];rfl);have da:P' p (q+1)={P' p q with less:=if o<o2 then oL (P' p q).less p q else(P' p q).less}:=by
       rw[ES,ES,wj];simp only[SE,ho,R5,S8];by_cases hlt:o<o2
       ·rw[if_pos (by omega),if_pos hlt]
       ·rw[if_neg (by omega),if_neg hlt]
      refine aN ?_;refine aj ?_;refine dT 8 ?_;simp only[seval,dL,b4,b4q,kX ho,kX R5];refine aD ?_;refine⟨λh=> ?_,λh=> ?_⟩
      ·have hlt:o<o2:=(by simpa using h);rw[if_pos hlt]at da;obtain⟨v,hv⟩:=bX (xs:=(P' p q).less) (i:=p) (by have:=o1.less;omega);have FY:v<65536:=o1.mS v (Tf hv);have akP:=Kn.LZ o1 (mp:=mp) hv;have akT:=Kn.aaF o1 (mp:=mp) (p:=p) (v:=v|||2^q) (eR hv);have akS:=Kn.len o1 mp;rw[Eb hv]at da;refine dT 12 ?_;simp only[seval,uV lJ,uW lJ,b4,akP];refine ii (wv (v|||2^q)) (cI (ub FY (show q<16 by omega) ⟨rfl,rfl⟩)) ?_;(try simp only[seval,uV lJ,uW lJ,b4,akS]);refine⟨by omega,?_⟩;rw[akT,<- da];refine ak ?_;simp only[seval,v_];refine QO _ ⟨kF,?_,?_⟩
       ·rw[da];exact o1.acj (pn FY (wE (by omega)))
       ·exact dq
      ·have hlt:¬o<o2:=(by simpa using h);rw[if_neg hlt]at da;refine aN ?_;refine ak ?_;simp only[seval,v_];rw[show ({P' p q with less:=(P' p q).less}:Kn)=P' p q from rfl]at da;refine QO _ ⟨kF,?_,?_⟩
       ·rw[da];exact o1
       ·rw[da];exact dq
     ·have hqe:q=x.pieces.length:=(by omega);subst hqe;rw[hPs]at o1⊢;refine bZ ?_;refine ak ?_;simp only[seval,bN];exact hR _ ⟨cO,o1,dq⟩
    ·have eG:p=x.pieces.length:=(by omega);subst eG;have:=ee _ R1.aL [.cells x.l 76,.cells (t.map iv) 86] rfl rfl;rw[<- hP,FO (P _) (by rw[hP])]at this;refine bZ ?_;exact this
end
open Go.Conc Go.Proofs Go.Gg.Tk
namespace Tk
def gp (F:Kn)(hs:List (List Int))(G:Kn):Kn:=if G.has then⟨true,hs.foldl jF F.aL,ly F.ay G.ay,ly F.hours G.hours,ly F.less G.less,ly F.aU G.aU,if F.has=false\/sw G.first F.first then G.first else F.first⟩else F
def nN (l m:List Nat):Nat->List Nat
 |0=>l
 |i+1=>(nN l m i).set i ((nN l m i).getD i 0|||m.getD i 0)
end Tk
theorem GI{l m:List Nat}{i a b:Nat}(ha:(nN l m i)[i]?=some a)(hb:m[i]?=some b):nN l m (i+1)=(nN l m i).set i (a|||b):=by
 rw[nN,SE,SE,ha,hb];rfl
theorem anP{l m:List Nat}(h:l.length=m.length){i:Nat}(hi:i<=l.length):nN l m i=ly (l.take i) (m.take i)++l.drop i:=by
 induction i with
 |zero=>simp[nN,ly]
 |succ i ih=>
  have hl:i<l.length:=by omega
  have hm:i<m.length:=by omega
  have e1:(ly (l.take i) (m.take i)).length=i:=by simp[ly];omega
  have e2:(nN l m i).getD i 0=l[i]:=by
   rw[ih (by omega),SE,Th (by omega),e1];simp[hl]
  rw[nN,e2,ih (by omega),UN _ _ (by omega),e1,Vd,SE,SQ hm,S8,TW hl,TZ,VI,VI,SQ hl,SQ hm,YR,YR];unfold ly;rw[List.zipWith_append (by simp;omega)];simp
theorem GH{l m:List Nat}(h:l.length=m.length){n:Nat}(hn:l.length=n):nN l m n=ly l m:=by
 subst hn;rw[anP h (SR _),h,TH,TS (by omega),S0,<- h,TH]
theorem ahw{lv:Bool}{H:List aa}{k kp:AV->List aa->Prop}{fp mp mg:Nat}{Q G:Kn}(hQ:bI Q)(hG:bI G)(mc:fp≠mp)(pS:mg≠mp)(hf:H[fp]?=some (.cells (Q.l mp) 88))(hm:H[mp]?=some (setH Q.aL))(hg:H[mg]?=some (setH G.aL))(v6:G.aL.Nodup)(hk:∀hs:List (List Int),hs.Perm G.aL->k (.aJ []) ((H.set fp (.cells ((gp Q hs G).l mp) 88)).set mp (setH (gp Q hs G).aL))):bf lv SC 102 H [.op fp 0,.agg (G.l mg)] k kp:=by
 refine bH (rs:=[]) (nt:=121) Tryz.f102 λhH hA=> ?_;simp only[br,SW];have mb:=eR hf;have Cl:=eR hm;have oq:=eR hg;have Fj:=Kn.len hG mg;have FL:=Kn.len hQ mp;have sR:(G.l mg).drop 17=G.first.map iv:=by
  have e:G.l mg=(bv G.has:: .mp mg::(G.ay.map (λn=>wv n)++(G.hours.map (λn=>wv n)++(G.less.map (λn=>wv n)++G.aU.map (λn=>wv n)))))++G.first.map iv:=by simp[Kn.l]
  rw[e,Wr (by simp[hG.ay,hG.hours,hG.less,hG.aU]),TS (by simp[hG.ay,hG.hours,hG.less,hG.aU])];rfl
 refine aj ?_;refine ak ?_;simp only[seval,Kn.BI];refine aD ?_;refine⟨λh=> ?_,λh=> ?_⟩
 ·
  have Kg:G.has=false:=by simpa using h
  have:=hk G.aL (af' _);rw[gp,Kg]at this;simp only[TN,if_false]at this;rw[qt hf,qt hm]at this;refine aZ ?_;exact jr hH (Wk.refl _) (by simp[je]) this
 ·have Kg:G.has=true:=by simpa using h
  refine aN ?_;obtain⟨R1,pN⟩:∃R1,R1=(if Q.has=false\/sw G.first Q.first=true then{Q with first:=G.first}else Q):=⟨_,rfl⟩;have nu:bI R1:=by
   rw[pN];split
   ·exact⟨hQ.ay,hQ.hours,hQ.less,hQ.aU,hG.first,hQ.mu,hQ.l_,hQ.mS,hQ.lT,hQ.h4⟩
   ·exact hQ
  have BW:R1.aL=Q.aL:=by rw[pN];split<;>rfl
  obtain⟨H1,lG⟩:∃H1,H1=H.set fp (.cells (R1.l mp) 88):=⟨_,rfl⟩;have aT:∀(L:List aa),(H++L)[H.length]?=L[0]?:=λL=>aX H L 0;have dK:∀(z:aa)(L:List aa),(H.set fp z++L)[H.length]?=L[0]?:=λz L=>by have:=aX (H.set fp z) L 0;rwa [TQ]at this
  have j6:=hG.first;have zQ:Uq 11 (G.first.map iv)=G.first.map iv:=SY (by rw[Tp];omega);have G2:Uq 17 (Q.l mp)++G.first.map iv++UD 28 (Q.l mp)=({Q with first:=G.first}:Kn).l mp:=Kn.acf hQ j6;have Sm:(Q.l mp).drop 17=Q.first.map iv:=by
   have e:Q.l mp=(bv Q.has:: .mp mp::(Q.ay.map (λn=>wv n)++(Q.hours.map (λn=>wv n)++(Q.less.map (λn=>wv n)++Q.aU.map (λn=>wv n)))))++Q.first.map iv:=(by simp[Kn.l]);rw[e,Wr (by simp[hQ.ay,hQ.hours,hQ.less,hQ.aU]),TS (by simp[hQ.ay,hQ.hours,hQ.less,hQ.aU])];rfl
  have SA:Uq 11 (Q.first.map iv)=Q.first.map iv:=SY (by rw[Tp,hQ.first];exact SR _);have cN:H1.length=H.length:=by rw[lG,TQ]
  cases FK:Q.has
  case' true=>
   refine dT 12 ?_;simp only[seval,fI hf,Kn.BI,FK,aT,sR,Sm,Fj,FL,zQ,SA];refine⟨by omega,by have:=hQ.first;omega,?_⟩;refine aK ((ahE hG.first hQ.first ?_));(try simp only[seval]);refine aD ?_;refine⟨λhb=> ?tt,λhb=> ?tf⟩
  case' false=>
   refine dT 12 ?_;simp only[seval,fI hf,Kn.BI,FK,aT,sR,Sm,Fj,FL,zQ,SA];refine aD ?_
  case' tt=>
   have e1:R1={Q with first:=G.first}:=(by rw[pN,if_pos (.inr hb)]);refine ak ?_;simp only[seval,fI hf,aT,sR,Fj,FL,zQ,j6,uX mb];rw[G2,<- e1,<- lG,<- cN]
  case' tf=>
   have e1:R1=Q:=(by rw[pN,if_neg (by rw[FK,hb];simp)]);have IR:H1=H:=(by rw[lG,e1];exact qt hf);refine aN ?_;rw[<- IR]
  case' false=>
   have e1:R1={Q with first:=G.first}:=(by rw[pN,if_pos (.inl FK)]);refine ak ?_;simp only[seval,fI hf,aT,sR,Fj,FL,zQ,j6,uX mb];rw[G2,<- e1,<- lG,<- cN]
  all_goals
   clear e1;have lJ:fp<H1.length:=(by omega);have xh:H1[fp]?=some (.cells (R1.l mp) 88):=(by rw[lG,UU,if_pos rfl,if_pos mb]);have EL:H1[mp]?=some (setH R1.aL):=(by rw[lG,T6 mc,BW];exact hm);have Rm:fp≠mg:=λe=>(by subst e;rw[hf]at hg;cases hg);have h1g:H1[mg]?=some (setH G.aL):=(by rw[lG,T6 Rm];exact hg);obtain⟨R2,xk⟩:∃R2,R2=({R1 with has:=true}:Kn):=⟨_,rfl⟩;have eL:AV.val (.bool true)::UD 1 (R1.l mp)=R2.l mp:=(by rw[xk];rfl);have JJ:R2.aL=Q.aL:=(by rw[xk];exact BW);have uf:bI R2:=(by rw[xk];exact⟨nu.ay,nu.hours,nu.less,nu.aU,nu.first,nu.mu,nu.l_,nu.mS,nu.lT,nu.h4⟩);refine ak ?_;simp only[seval,fI xh,uX lJ,Kn.aqa];refine⟨by have:=Kn.len nu mp;omega,?_⟩;rw[eL];obtain⟨B,hB⟩:∃B:Kn->List (List Int)->List aa,∀K hs,B K hs=(H1.set fp (.cells (K.l mp) 88)).set mp (setH hs):=⟨_,λ_ _=>rfl⟩;have fJ:∀K hs,(B K hs).length=H1.length:=λK hs=>(by rw[hB,TQ,TQ]);have QE:∀K hs (L:List aa),(B K hs++L)[mp]?=some (.obj (.map (hs.zipIdx.map eC).toArray hs.length)):=λK hs L=>by
    rw[SX (by rw[fJ];omega),hB,UU,if_pos rfl,if_pos (by rw[TQ];omega)];rfl
   have EN:∀K hs (L:List aa),(B K hs++L)[mg]?=some (.obj (.map (G.aL.zipIdx.map eC).toArray G.aL.length)):=λK hs L=>by
    rw[SX (by rw[fJ];omega),hB,T6 (λe=>pS e.symm),T6 Rm,h1g];rfl
   have n9:∀K hs (L:List aa),(B K hs++L)[fp]?=some (.cells (K.l mp) 88):=λK hs L=>by
    rw[SX (by rw[fJ];omega),hB,T6 (λe=>mc e.symm),UU,if_pos rfl,if_pos (by omega)]
   have ajo:∀K hs nG (L:List aa),(B K hs++L).set mp (setH nG)=B K nG++L:=λK hs nG L=>by
    rw[WB _ _ (by rw[fJ];omega),hB,hB,W8]
   have EO:∀K hs K' (L:List aa),(B K hs++L).set fp (.cells (K'.l mp) 88)=B K' hs++L:=λK hs K' L=>by
    rw[WB _ _ (by rw[fJ];omega),hB,hB,List.set_comm _ _ (λe=>mc e.symm),W8]
   have QF:H1.set fp (.cells (R2.l mp) 88)=B R2 R2.aL:=by
    rw[hB];symm;exact qt (by rw[T6 mc,EL,JJ,BW])
   have aT:∀K hs (L:List aa),(B K hs++L)[H1.length]?=L[0]?:=λK hs L=>(by rw[<- fJ K hs];exact aX _ L 0);have dg:∀K hs (L:List aa),(B K hs++L)[H1.length+1]?=L[1]?:=λK hs L=>(by rw[<- fJ K hs];exact aX _ L 1);have lg:∀K hs (L:List aa),(B K hs++L)[H1.length+2]?=L[2]?:=λK hs L=>(by rw[<- fJ K hs];exact aX _ L 2);have Kd:(G.l mg).drop 1=.mp mg::((G.l mg).drop 2):=rfl;have QK:∀K:Kn,(K.l mp).drop 1=.mp mp::((K.l mp).drop 2):=λ_=>rfl;have b_:∀(K:Kn)(hs:List (List Int)),bP (B K hs):=λK hs=>by
    intro z hz;rw[fJ];rw[hB]at hz;rcases UJ hz with hz|rfl
    ·rcases UJ hz with hz|rfl
     ·rw[lG]at hz;rcases UJ hz with hz|rfl
      ·exact cN▸hH z hz
      ·intro a ha;simp only[Kn.l,SL,SS,Td]at ha;rcases ha with rfl|rfl|⟨_,_,rfl⟩|⟨_,_,rfl⟩|⟨_,_,rfl⟩|⟨_,_,rfl⟩|⟨_,_,rfl⟩
       ·exact .val _
       ·exact .mp (by omega)
       all_goals exact .val _
     ·intro a ha;simp only[Kn.l,SL,SS,Td]at ha;rcases ha with rfl|rfl|⟨_,_,rfl⟩|⟨_,_,rfl⟩|⟨_,_,rfl⟩|⟨_,_,rfl⟩|⟨_,_,rfl⟩
      ·exact .val _
      ·exact .mp (by omega)
      all_goals exact .val _
    ·trivial
   have ee:∀(hs:List (List Int))(K:Kn)(L:List aa),hs.Perm G.aL->gp Q hs G=K->cw H1.length (B K K.aL++L) (.aJ []) k:=λhs K L hp hK=>by
    have:=hk hs hp;rw[hK]at this;subst hK;refine jR (Wk.refl _) rfl (by rw[fJ];exact SR _) (b_ _ _) (by simp[je]) ?_;rw[hB,lG,W8];exact this
   rw[QF];clear hk QF;refine ak ?_;simp only[seval,aT,Kd,EN];rw[fJ];have Q5:∀K hs (L:List aa) z,(B K hs++L).set (H1.length+1) z=B K hs++L.set 1 z:=λK hs L z=>by
    rw[UN _ _ (by rw[fJ];omega),fJ,US]
   have ajD:∀K hs (L:List aa) z,(B K hs++L).set (H1.length+2) z=B K hs++L.set 2 z:=λK hs L z=>by
    rw[UN _ _ (by rw[fJ];omega),fJ,US]
   obtain⟨ts,dR⟩:∃ts,ts=G.aL.zipIdx:=⟨_,rfl⟩;obtain⟨ck,Ff⟩:∃ck,ck=G.aL.length:=⟨_,rfl⟩;rw[<- dR,<- Ff]at EN;rw[<- Ff];have hb:∀y∈ts,y.2<ck:=λy hy=>(by rw[dR]at hy;have:=List.snd_lt_add_of_mem_zipIdx hy;omega);have Co:(ts.map (·.2)).Nodup:=(by rw[dR,show (λy:List Int×Nat=>y.2)=Prod.snd from rfl,List.zipIdx_map_snd];exact List.nodup_range');have h4:∀y∈ts,y.1.length=4:=λy hy=>(by rw[dR]at hy;exact hG.h4 _ (DL hy));have fD:=OO ts ck hb;have La:ts.map (·.1)=G.aL:=(by rw[dR,show (λy:List Int×Nat=>y.1)=Prod.fst from rfl,List.zipIdx_map_fst]);clear dR;obtain⟨ac,EW⟩:∃ac:List (List Int×Nat)->List (List Int),∀vs,ac vs=vs.foldl (λa y=>jF a y.1) R2.aL:=⟨_,λ_=>rfl⟩;have QX:ac []=R2.aL:=(by rw[EW];rfl);have JK:∀vs y,ac (vs++[y])=jF (ac vs) y.1:=λvs y=>(by rw[EW,EW,ZU];rfl);obtain⟨i3,pU,o4⟩:=F.i3;refine cy ?_;refine yH (measure λvs:List (List Int×Nat)=>ts.length-vs.length).wf (λvs=>[]) (λvs=>B R2 (ac vs)++[.cells (G.l mg) 88,.iter mg ck (vs.map (·.2)).toArray ck]) (λvs=>(vs.map (·.2)).Nodup/\(∀y∈vs,y∈ts)/\∀h∈ac vs,h.length=4) [] (λ_ _=>rfl) (by simp) (by rw[QX];rfl) (λ_ _=>by simp[fJ]) ⟨by simp,by simp,by rw[QX,JJ];exact hQ.h4⟩ (λbU cS vs az R hR=> ?_);refine ak ?_;simp only[seval,dg,EN,Q5];refine⟨fD.elim .inl (λh=> .inr (.inl h)),λe he hn=> ?_,λhs=> ?_⟩
   ·obtain⟨y,hy,rfl⟩:∃y∈ts,eC y=e:=(by simpa using he);refine aD ?_;refine aN ?_;refine cy ?_;have sH:=h4 y hy;have JR:(eC y).born=y.2:=rfl;have hlen:(y.1.map iv).length=4:=(by simp[sH]);have J4:UD 4 [AV.val (SG SF 0),AV.val (SG SF 0),AV.val (SG SF 0),AV.val (SG SF 0)]=[]:=rfl;refine ak ?_;simp only[seval,dg,EN,Q5,ajD,lg,fJ,Array.back?_push,JR,P7 Co hy,abn,sH,hlen,J4];refine dT 10 ?_;simp only[seval,n9,QK,QE,lg,hlen,sH];have Sz:Uq 4 (y.1.map iv)=y.1.map iv:=SY (by omega);have Ju:∀z∈(ac vs).zipIdx,z.1.length=4:=λz hz=>az.2.2 _ (DL hz);have Fi:=acW (ts:=(ac vs).zipIdx) F.Dw F.u3 pU o4 sH Ju;have Fe:=λb=>acS (b:=b) (k:=.i64) (d:=9998) F.Dw F.u3 pU o4 sH;have FJ:((vs.map (·.2)).toArray.push y.2)=((vs++[y]).map (·.2)).toArray:=(by simp);have Li:y.2∉vs.map (·.2):=(by simpa[eC]using hn);have sX:((vs++[y]).map (·.2)).Nodup/\(∀z∈vs++[y],z∈ts)/\∀h∈ac (vs++[y]),h.length=4:=by
     refine⟨?_,λz hz=> ?_,λh hh=> ?_⟩
     ·rw[TF,U5];refine⟨az.1,by simp,λa ha b hb=> ?_⟩;simp at hb;subst hb;intro e;subst e;exact Li ha
     ·rcases SS.1 hz with h|h
      ·exact az.2.1 z h
      ·rw[S9.1 h];exact hy
     ·rw[JK,jF]at hh;split at hh
      ·exact az.2.2 _ hh
      ·rcases SS.1 hh with h'|h'
       ·exact az.2.2 _ h'
       ·rw[S9.1 h'];exact sH
    have hlen:vs.length<ts.length:=by
     have h1:(vs++[y]).Nodup:=C5 _ sX.1;have:=h1.length_le_of_subset sX.2.1;simp at this;omega
    have ry:ts.length-(vs++[y]).length<ts.length-vs.length:=(by simp;omega);have FD:∀sn,bP (B R2 (ac (vs++[y]))++[aa.cells (G.l mg) 88,aa.iter mg ck sn ck]):=λsn z hz=>by
     rcases SS.1 hz with h|h
     ·exact(b_ _ _ z h).mono (by simp)
     ·have JA:∀a∈G.l mg,Lt H1.length a:=λa ha=>by
       simp only[Kn.l,SL,SS,Td]at ha;rcases ha with rfl|rfl|⟨_,_,rfl⟩|⟨_,_,rfl⟩|⟨_,_,rfl⟩|⟨_,_,rfl⟩|⟨_,_,rfl⟩
       ·exact .val _
       ·exact .mp (by omega)
       all_goals exact .val _
      simp only[SL,S4,or_false]at h;rcases h with rfl|rfl
      ·intro a ha;exact(JA a ha).mono (by simp[fJ])
      ·show mg<_;simp[fJ];omega
    rw[Sz];refine eg F.N1 (eg (ye _) ⟨Fe _,_,Fi,?_⟩);rcases Jc (x:=y.1) (hs:=ac vs)with⟨h,Cq⟩|⟨i',b,h,h2,Cq⟩
    ·rw[h];(try simp only[seval,AV.found]);refine aj ?_;refine aD ?_;refine dT 5 ?_;simp only[seval,n9,QK,QE,lg,hlen,sH];rw[Sz];refine eg (ye _) (eg rfl ⟨Fe _,_,Fi,?_,?_⟩)
     ·intro i v xD;rw[h]at xD;cases xD
     ·rw[h,abK,<- acg,ajo,show ac vs++[y.1]=ac (vs++[y]) by rw[JK,jF,if_neg Cq],FJ];refine hR _ ⟨vs++[y],ry,sX,?_⟩;exact Ao (pf rfl rfl) (by simp only[seval]<;>simp[bz,Wk.refl]) (FD _) (by simp[eI])
    ·rw[h];(try simp only[seval,AV.found]);refine aj ?_;refine aD ?_;refine aN ?_;rw[show ac vs=ac (vs++[y]) by rw[JK,jF,if_pos Cq],FJ];refine hR _ ⟨vs++[y],ry,sX,?_⟩;exact Ao (pf rfl rfl) (by simp only[seval]<;>simp[bz,Wk.refl]) (FD _) (by simp[eI])
   ·have hp:vs.Perm ts:=ab3 az.1 Co az.2.1 λy hy=>by
     have:=hs (eC y) (by simp;exact⟨y.1,y.2,hy,rfl⟩) (hb y hy);simpa[eC]using this
    refine aD ?_;refine bZ ?_;obtain⟨K,hK⟩:∃K:Nat->Nat->Kn,∀i j,K i j={R2 with ay:=nN R2.ay G.ay i,hours:=nN R2.hours G.hours i,less:=nN R2.less G.less i,aU:=nN R2.aU G.aU j}:=⟨_,λ_ _=>rfl⟩;have QJ:K 0 0=R2:=(by rw[hK];rfl);refine aj ?_;refine cy ?_;refine gL 4 (λi:Nat=>[(57,iv i)]) (λi=>B (K i 0) (ac vs)++[.cells (G.l mg) 88,.iter mg ck (vs.map (·.2)).toArray ck]) (λi=>bI (K i 0)) (λ_ _=>rfl) (by simp only[seval];simp[bz,Wk.refl]) (by rw[QJ]) (λ_ _ _=>by simp[fJ]) (by rw[QJ];exact uf) (λas3 as8 i cM ut R hR=> ?_);refine aj ?_;refine aD ?_;refine⟨λh=> ?_,λh=> ?_⟩
    ·have bB:i<4:=(by omega);obtain⟨a1,qY⟩:=bX (xs:=(K i 0).ay) (i:=i) (by have:=ut.ay;omega);obtain⟨a2,BY⟩:=bX (xs:=(K i 0).hours) (i:=i) (by have:=ut.hours;omega);obtain⟨a3,EV⟩:=bX (xs:=(K i 0).less) (i:=i) (by have:=ut.less;omega);obtain⟨c1,dl⟩:=bX (xs:=G.ay) (i:=i) (by have:=hG.ay;omega);obtain⟨c2,cT⟩:=bX (xs:=G.hours) (i:=i) (by have:=hG.hours;omega);obtain⟨c3,dO⟩:=bX (xs:=G.less) (i:=i) (by have:=hG.less;omega);have CV:=ut.mu _ (Tf qY);have la2:=ut.l_ _ (Tf BY);have la3:=ut.mS _ (Tf EV);have CX:=hG.mu _ (Tf dl);have lc2:=hG.l_ _ (Tf cT);have lc3:=hG.mS _ (Tf dO);have b4:(0<=(i:Int)/\(i:Int)<4)=True:=(by simp;omega);have bN:SF.wrap ((i:Int)+1)=((i+1:Nat):Int):=(by rw[bG _ (by omega)];rfl);refine aN ?_;refine aj ?_;obtain⟨Ka,BV⟩:∃Ka,Ka=({K i 0 with ay:=(K i 0).ay.set i (a1|||c1)}:Kn):=⟨_,rfl⟩;have GA:bI Ka:=(by rw[BV];exact ut.ack (pn CV CX));have sa:=Kn.abl (F:=K i 0) (mp:=mp) (p:=i) (v:=a1|||c1) (eR qY);rw[<- BV]at sa;refine dT 13 ?_;simp only[seval,n9,aT,b4,Kn.Gy qY,Kn.Gy dl,A',GJ CV CX,Kn.len ut mp];refine⟨by omega,?_⟩;rw[sa,EO];obtain⟨Kb,EQ⟩:∃Kb,Kb=({Ka with hours:=Ka.hours.set i (a2|||c2)}:Kn):=⟨_,rfl⟩;have GB:bI Kb:=(by rw[EQ];exact GA.aci (pn la2 lc2));have xr:Ka.hours[i]?=some a2:=(by rw[BV];exact BY);have sb:=Kn.Sb GA (mp:=mp) (p:=i) (v:=a2|||c2) (eR xr);rw[<- EQ]at sb;refine dT 13 ?_;simp only[seval,n9,aT,b4,Kn.FF GA xr,Kn.FF hG cT,A',GJ la2 lc2,Kn.len GA mp];refine⟨by omega,?_⟩;rw[sb,EO];have EZ:Kb.less[i]?=some a3:=(by rw[EQ,BV];exact EV);have sc:=Kn.aaF GB (mp:=mp) (p:=i) (v:=a3|||c3) (eR EZ);have xj:({Kb with less:=Kb.less.set i (a3|||c3)}:Kn)=K (i+1) 0:=by
      rw[EQ,BV,hK (i+1)];simp only[hK]at qY BY EV⊢;rw[GI qY dl,GI BY cT,GI EV dO]
     have Mm:bI (K (i+1) 0):=(by rw[<- xj];exact GB.acj (pn la3 lc3));rw[xj]at sc;refine dT 13 ?_;simp only[seval,n9,aT,b4,Kn.LZ GB EZ,Kn.LZ hG dO,A',GJ la3 lc3,Kn.len GB mp];refine⟨by omega,?_⟩;rw[sc,EO];refine ak ?_;simp only[seval,bN];exact hR _ ⟨bB,Mm,dq⟩
    ·have dw:i=4:=(by omega);subst dw;refine bZ ?_;refine aj ?_;refine cy ?_;refine gL 3 (λi:Nat=>[(103,iv i)]) (λj=>B (K 4 j) (ac vs)++[.cells (G.l mg) 88,.iter mg ck (vs.map (·.2)).toArray ck]) (λj=>bI (K 4 j)) (λ_ _=>rfl) (by simp only[seval];simp[bz,Wk.refl]) rfl (λ_ _ _=>by simp[fJ]) ut (λas4 as9 j oW zF R hR=> ?_);refine aj ?_;refine aD ?_;refine⟨λh=> ?_,λh=> ?_⟩
     ·have fi:j<3:=(by omega);obtain⟨a1,qY⟩:=bX (xs:=(K 4 j).aU) (i:=j) (by have:=zF.aU;omega);obtain⟨c1,dl⟩:=bX (xs:=G.aU) (i:=j) (by have:=hG.aU;omega);have CV:=zF.lT _ (Tf qY);have CX:=hG.lT _ (Tf dl);have b3:(0<=(j:Int)/\(j:Int)<3)=True:=(by simp;omega);have bN:SF.wrap ((j:Int)+1)=((j+1:Nat):Int):=(by rw[bG _ (by omega)];rfl);refine aN ?_;refine aj ?_;have sa:=Kn.abD zF (mp:=mp) (p:=j) (v:=a1|||c1) (eR qY);have xj:({K 4 j with aU:=(K 4 j).aU.set j (a1|||c1)}:Kn)=K 4 (j+1):=by
       rw[hK 4 (j+1)];simp only[hK]at qY⊢;rw[GI qY dl]
      have Mm:bI (K 4 (j+1)):=(by rw[<- xj];exact zF.Dk (pn CV CX));rw[xj]at sa;refine dT 13 ?_;simp only[seval,n9,aT,b3,Kn.Db zF qY,Kn.Db hG dl,A',GJ CV CX,Kn.len zF mp];refine⟨by omega,?_⟩;rw[sa,EO];refine ak ?_;simp only[seval,bN];exact hR _ ⟨fi,Mm,dq⟩
     ·have Kr:j=3:=(by omega);subst Kr;refine bZ ?_;have KR:(vs.map (·.1)).Perm G.aL:=by
       have:=hp.map (·.1);rw[La]at this;exact this
      have ajt:ac vs=(vs.map (·.1)).foldl jF Q.aL:=(by rw[EW,JJ,List.foldl_map]);have hJ:gp Q (vs.map (·.1)) G={K 4 3 with aL:=ac vs}:=by
       have e2:R2=⟨true,Q.aL,Q.ay,Q.hours,Q.less,Q.aU,if Q.has=false\/sw G.first Q.first=true then G.first else Q.first⟩:=by
        rw[xk,pN];split<;>rfl
       rw[gp,if_pos Kg,hK,GH (by rw[uf.ay,hG.ay]) uf.ay,GH (by rw[uf.hours,hG.hours]) uf.hours,GH (by rw[uf.less,hG.less]) uf.less,GH (by rw[uf.aU,hG.aU]) uf.aU,ajt,e2]
      have:=ee (vs.map (·.1)) _ [.cells (G.l mg) 88,.iter mg ck (vs.map (·.2)).toArray ck] KR hJ;rw[show B ({K 4 3 with aL:=ac vs}:Kn) (ac vs)=B (K 4 3) (ac vs) by rw[hB,hB];rfl]at this;exact this
open Go.Conc Go.Proofs Go.Gg.Tk
namespace Tk
theorem Bd{l:List Nat}{i v:Nat}:(oL l i v).length=l.length:=by simp[oL]
theorem Ec{l:List Nat}{i v:Nat}(h:∀n∈l,n<65536)(hv:v<16):∀n∈oL l i v,n<65536:=by
 refine C2 h (pn ?_ (wE hv));rw[SE];cases hi:l[i]?with
 |none=>exact(by decide:0<65536)
 |some a=>exact h _ (Tf hi)
theorem aq2{x:ai}{t:List Int}(ht:jn x t){p:Nat}(hp:p<x.pieces.length):iA t p<16:=by
 obtain⟨n,h1,h2,_⟩:=ht.num p hp;unfold iA;rw[SE,h1];show n<16;omega
theorem aq1{t:List Int}(h:t.length=11){p:Nat}:tG t p<16:=by
 unfold tG;have h5:gw (t.take 4) (t.getD (4+p) 0+t.getD 0 0)<0+(t.take 4).length:=adb;have:(t.take 4).length=4:=by simp[h]
 omega
theorem aq3{x:ai}{t:List Int}(ht:jn x t){s:Nat}(hs:s<x.aB.length):rS t s<16:=by
 obtain⟨n,h1,h2⟩:=ht.own s hs;unfold rS;rw[SE,h1];show n<16;omega
theorem abC{x:ai}{t:List Int}(ht:jn x t){l:List Nat}(hl:∀n∈l,n<65536):∀{s:Nat},s<=x.aB.length->(mU t s l).length=l.length/\∀n∈mU t s l,n<65536
 |0,_=>⟨rfl,hl⟩
 |s+1,h=>by
  obtain⟨h1,h2⟩:=abC ht hl (s:=s) (by omega);exact⟨Bd.trans h1,Ec h2 (aq3 ht (by omega))⟩
theorem abh{x:ai}{t:List Int}(ht:jn x t){l:List Nat}(hl:∀n∈l,n<65536):∀{s:Nat},s<=x.pieces.length->(rL t s l).length=l.length/\∀n∈rL t s l,n<65536
 |0,_=>⟨rfl,hl⟩
 |s+1,h=>by
  obtain⟨h1,h2⟩:=abh ht hl (s:=s) (by omega);exact⟨Bd.trans h1,Ec h2 (aq2 ht (by omega))⟩
theorem Sa{t:List Int}(ht:t.length=11){l:List Nat}(hl:∀n∈l,n<65536):∀{s:Nat},(rq t s l).length=l.length/\∀n∈rq t s l,n<65536
 |0=>⟨rfl,hl⟩
 |s+1=>by
  obtain⟨h1,h2⟩:=Sa ht hl (s:=s);exact⟨Bd.trans h1,Ec h2 (aq1 ht)⟩
theorem aaE{t:List Int}{p:Nat}{l:List Nat}(hl:∀n∈l,n<65536):∀{q:Nat},q<=4->(wj t p q l).length=l.length/\∀n∈wj t p q l,n<65536
 |0,_=>⟨rfl,hl⟩
 |q+1,h=>by
  obtain⟨h1,h2⟩:=aaE hl (q:=q) (t:=t) (p:=p) (by omega);unfold wj;split
  ·exact⟨Bd.trans h1,Ec h2 (by omega)⟩
  ·exact⟨h1,h2⟩
theorem aaD{t:List Int}{k:Nat}(hk:k<=4){l:List Nat}(hl:∀n∈l,n<65536):∀{p:Nat},(x6 t k p l).length=l.length/\∀n∈x6 t k p l,n<65536
 |0=>⟨rfl,hl⟩
 |p+1=>by
  obtain⟨h1,h2⟩:=aaD hk hl (p:=p) (t:=t);obtain⟨h3,h4⟩:=aaE h2 (t:=t) (p:=p) hk;exact⟨h3.trans h1,h4⟩
theorem abH{hs:List (List Int)}{h:List Int}(h1:∀y∈hs,y.length=4)(h2:h.length=4):∀y∈jF hs h,y.length=4:=λy hy=>by
 unfold jF at hy;split at hy
 ·exact h1 y hy
 ·rcases SS.1 hy with h'|h'
  ·exact h1 y h'
  ·rw[S9.1 h'];exact h2
theorem Ni{x:ai}{deep:Int}{Q:Kn}{t:List Int}(hx:x.Ok)(ht:jn x t)(hQ:bI Q):bI (ep x deep Q t):=by
 have hB:=OF hQ ht.len;unfold ep;dsimp only;generalize jO Q t=R at hB;split
 ·obtain⟨h1,h2⟩:=abC ht hB.lT (SR _);exact⟨hB.ay,hB.hours,hB.less,h1.trans hB.aU,hB.first,hB.mu,hB.l_,hB.mS,h2,hB.h4⟩
 ·split
  ·exact⟨hB.ay,hB.hours,hB.less,hB.aU,hB.first,hB.mu,hB.l_,hB.mS,hB.lT,abH hB.h4 (by simp[ht.len])⟩
  ·obtain⟨h1,h2⟩:=abh ht hB.mu (SR _);obtain⟨h3,h4⟩:=Sa ht.len hB.l_ (s:=x.pieces.length);obtain⟨h5,h6⟩:=aaD (t:=t) hx.c9 hB.mS (p:=x.pieces.length);exact⟨h1.trans hB.ay,h3.trans hB.hours,h5.trans hB.less,hB.aU,hB.first,h2,h4,h6,hB.lT,hB.h4⟩
theorem Ns{x:ai}{deep:Int}{h t:List Int}(ht:t∈gG x deep h):∃ns∈fS x h,t∈(ie x h ns).map (db h ns):=by
 have key:t∈((fS x h).map λns=>(ie x h ns).map λos=>db h ns os).flatten:=by
  unfold gG at ht;dsimp only at ht;split at ht
  ·exact Wv ht
  ·split at ht
   ·obtain⟨l,h1,h2⟩:=XJ.1 ht;obtain⟨m,h3,rfl⟩:=Td.1 h1;exact XJ.2 ⟨m,h3,Wv h2⟩
   ·exact ht
 obtain⟨l,h1,h2⟩:=XJ.1 key;obtain⟨ns,h3,rfl⟩:=Td.1 h1;exact⟨ns,h3,h2⟩
theorem CU:bI Kn.zero:=by
 have h0:∀k:Nat,∀n∈TM k 0,n<65536:=λk n h=>by rw[(Xv.1 h).2];decide
 exact⟨rfl,rfl,rfl,rfl,rfl,h0 4,h0 4,h0 4,h0 3,λh hh=>by cases hh⟩
theorem Jl{x:ai}{deep:Int}(hx:x.Ok):∀{ts:List (List Int)}{Q:Kn},(∀t∈ts,jn x t)->bI Q->bI (ts.foldl (ep x deep) Q)
 |[],Q,_,h=>h
 |t::ts,Q,ht,h=>by rw[UR];exact Jl hx (λu hu=>ht u (by simp[hu])) (Ni hx (ht t (by simp)) h)
end Tk
theorem xX{K:Kn}{mp m:Nat}(h:mp<m):∀a∈K.l mp,Lt m a:=λa ha=>by
 simp only[Kn.l,SL,SS,Td]at ha;rcases ha with rfl|rfl|⟨_,_,rfl⟩|⟨_,_,rfl⟩|⟨_,_,rfl⟩|⟨_,_,rfl⟩|⟨_,_,rfl⟩
 ·exact .val _
 ·exact .mp h
 all_goals exact .val _
theorem Gb{K:Kn}{mp m:Nat}(h:∀a∈K.l mp,Lt m a):mp<m:=by
 cases h (.mp mp) (by simp[Kn.l]);assumption
def cs:T7->T7
 |.seq _ c=>c
 |_=> .skip
def cf:T7->T7
 |.seq c _=>c
 |_=> .skip
noncomputable def aas:T7:=atI.body.getD .skip
def uG (x:ai)(bh:Nat)(deep:Int)(c:Nat)(w:SP):List (Nat×AV):=[(12,.fn (.func 86) [] [.op 2 0,.op 3 0]),(5,.op 1 0),(0,.val w),(1,.rp x.l),(2,.rp [iv bh]),(3,.rp [iv deep]),(4,.rp [.val (.chan (some c))])]
def wb (x:ai)(bh:Nat)(K:Kn):List aa:=[setH K.aL,.cells (K.l 0) 88,.cells x.l 76,.cells [iv bh] 3]
theorem alN{lv:Bool}{x:ai}{bh c:Nat}{w:SP}{deep:Int}{bs:List UX}(hx:x.Ok)(lP:bh<=3)(hA:∀h∈jA x bh,mB h/\∀ns∈fS x h,∀a∈(ie x h ns).map (db h ns),jn x a)(Φ:an->AS->List Nat->Prop)(hΦ:Φ .normal ⟨uG x bh deep c w,wb x bh (gH x deep bh)++[.obj (.deferred (some [])),.gone]⟩ [4]):
  ku lv SC 25 bs (cs (cf (cs (cs aas)))) ⟨uG x bh deep c w,wb x bh Kn.zero⟩ [] Φ:=by
 unfold aas atI;dsimp only[S8,cs,cf];refine wX ?_;refine Ih (by rfl) λl fn T ag bo hT xp pP=> ?_;(try simp only[seval,wb]);simp only[uG,iv]at hT;have bS:x.l=[iv x.first,iv x.hours,iv x.am,dY x.seen,bp x.pieces,bp x.aB]:=rfl;obtain⟨Gf,ue⟩:∃Gf:Kn->List aa,∀K,Gf K=[setH K.aL,.cells (K.l 0) 88,.cells x.l 76,.cells [iv bh] 3,.obj (.deferred (some [])),.loop l .ready none fn T 25 #[13] ag bo 4]:=⟨_,λ_=>rfl⟩;have JA:∀K,(Gf K).length=6:=λK=>by rw[ue];rfl
 have ajp:∀m K K',(∀z∈Gf K,eV m z)->∀z∈Gf K',eV m z:=λm K K' hz z fb=>by
  rw[ue]at hz fb;have h1:=hz (.cells (K.l 0) 88) (by simp);simp only[SL,S4,or_false]at fb;rcases fb with rfl|rfl|rfl|rfl|rfl|rfl
  ·trivial
  ·exact xX (Gb h1)
  ·exact hz _ (by simp)
  ·exact hz _ (by simp)
  ·exact hz _ (by simp)
  ·exact hz _ (by simp)
 have hY:jN lv SC (.fn (.yield l) [] []) (λK h=> .go ((gG x deep h).foldl (ep x deep) K)) Gf 6 bI (λh=>mB h/\∀ns∈fS x h,∀a∈(ie x h ns).map (db h ns),jn x a) (.aJ []):=by
  refine⟨λK h M k kp hK ha dD=> ?_,λK h K' hK ha he=> ?_,JA,ajp,rfl,rfl,rfl⟩
  ·obtain⟨oV,CF⟩:=ha;have h4:=oV.len;have nq:(h.map iv).length=4:=(by rw[Tp,h4]);obtain⟨Lo,ld⟩:∃Lo,Lo=aa.loop l .busy none fn T 25 #[13] ag bo 4:=⟨_,rfl⟩;obtain⟨P1,dt⟩:∃P1:Kn->List aa,∀K,P1 K=[setH K.aL,.cells (K.l 0) 88,.cells x.l 76,.cells [iv bh] 3,.obj (.deferred (some [])),Lo]++M:=⟨_,λ_=>rfl⟩;have ey:∀K,(P1 K).length=6+M.length:=λK=>(by rw[dt];simp;omega);have pg:∀(K:Kn)(L:List aa)(i:Nat),i<6->(P1 K++L)[i]?=[setH K.aL,aa.cells (K.l 0) 88,.cells x.l 76,.cells [iv bh] 3,.obj (.deferred (some [])),Lo][i]?:=λK L i Km=>by
    rw[dt,SD,SX (by simpa using Km)]
   have pb:∀(K:Kn)(L:List aa)(i:Nat),(P1 K++L)[6+M.length+i]?=L[i]?:=λK L i=>(by rw[<- ey K,aX]);have ww:∀(K:Kn)(L:List aa),(P1 K++L)[6+M.length]?=L[0]?:=λK L=>pb K L 0;have pq:∀(K:Kn)(L:List aa)(y:aa),(P1 K++L).set (6+M.length+4) y=P1 K++L.set 4 y:=λK L y=>(by rw[<- ey K,ec]);have s5:∀(K:Kn)(L:List aa) y,(P1 K++L).set 5 y=[setH K.aL,.cells (K.l 0) 88,.cells x.l 76,.cells [iv bh] 3,.obj (.deferred (some [])),y]++M++L:=λK L y=>(by rw[dt];rfl);have Ac:∀(K K':Kn)(L L':List aa),L'.length=L.length->(∀q,(∀z∈L,eV q z)->∀z∈L',eV q z)->bP (P1 K++L)->bP (P1 K'++L'):=λK K' L L' hl hL hH z hz=>by
    have hlen:(P1 K'++L').length=(P1 K++L).length:=(by simp[ey,hl]);rw[hlen];rcases SS.1 hz with h'|h'
    ·rw[dt]at h';rcases SS.1 h' with h'|h'
     ·have h1:=hH (.cells (K.l 0) 88) (by rw[dt];simp);have hq:∀w∈[setH K.aL,aa.cells (K.l 0) 88,.cells x.l 76,.cells [iv bh] 3,.obj (.deferred (some [])),Lo],eV (P1 K++L).length w:=λw hw=>hH w (by rw[dt,SD];exact Ti _ hw);simp only[SL,S4,or_false]at h';rcases h' with rfl|rfl|rfl|rfl|rfl|rfl
      ·trivial
      ·exact xX (Gb h1)
      ·exact hq _ (by simp)
      ·exact hq _ (by simp)
      ·exact hq _ (by simp)
      ·exact hq _ (by simp)
     ·exact hH z (by rw[dt];simp[h'])
    ·exact hL _ (λw hw=>hH w (S6 _ hw)) z h'
   simp only[cW]at dD;rw[ue]at dD;rw[ue];subst hT xp pP;refine vz (id:=5) (by rfl) rfl (by kernel_rfl) λn_ Jw=> ?_;simp only[rY];have vS:UD 4 [iv 0,iv 0,iv 0,iv 0]=[]:=rfl;refine ak ?_;simp only[seval,uG,h4,vS];unfold tQ;refine⟨none,fn,_,25,#[13],_,_,_,by rfl,?_⟩;dsimp only;simp only[UC,TZ];rw[<- ld];have xi:M.length+1+1+1+1+1+1=6+M.length:=(by omega);rw[xi];have xA:∀z:aa,(setH K.aL::aa.cells (K.l 0) 88::aa.cells x.l 76::aa.cells [AV.val (SG SF ↑bh)] 3::aa.obj (at0 (some []))::Lo::(M++[z]))=P1 K++[z]:=λz=>(by rw[dt];rfl);rw[xA];refine ak ?_;simp only[seval,bS,ww,h4,nq];rw[SY (i:=4) (l:=h.map iv) (by rw[nq];exact SR _)];refine aK ((I6 (x:=x) (h:=h) (deep:=deep) ?_));(try simp only[seval]);refine cy ?_;have pY:∀(K:Kn)(a b c d:aa),(P1 K++[a,b,c,d]).length=6+M.length+4:=λK a b c d=>(by simp[ey]);refine Ei 5 (by rfl) (by show (P1 K++_)[5]?=_;rw[pg K _ 5 (by omega),ld];rfl) λl2 eQ T2 gA gB oc xq xu=> ?_;simp only[seval];rw[ey]at oc⊢;have xo:jN lv SC (.fn (.yield l2) [] []) (λK t=> .go (ep x deep K t)) (λK=>P1 K++[.cells (h.map iv) 83,.cells x.l 76,.cells (h.map iv) 83,.cells [iv deep] 3,.loop l2 .ready none eQ T2 25 #[18] gA gB 4]) (6+M.length+5) bI (jn x) (.aJ []):=by
    refine⟨λK' t M2 k2 xY JD ht lm=> ?_,λK' t AP JD ht he=> ?_,λK'=>by simp[ey],λq K' AP hz z fb=> ?_,rfl,rfl,rfl⟩
    ·have qf:=ht.len;have zS:(t.map iv).length=11:=(by rw[Tp,qf]);obtain⟨pz,sJ⟩:∃Lo,Lo=aa.loop l2 .busy none eQ T2 25 #[18] gA gB 4:=⟨_,rfl⟩;obtain⟨Q1,fZ⟩:∃Q1:Kn->List aa,∀K,Q1 K=P1 K++([.cells (h.map iv) 83,.cells x.l 76,.cells (h.map iv) 83,.cells [iv deep] 3,pz]++M2):=⟨_,λ_=>rfl⟩;obtain⟨C,hC⟩:∃C,C=6+M.length+5+M2.length:=⟨_,rfl⟩;have JI:∀K,(Q1 K).length=C:=λK=>(by rw[fZ,hC];simp[ey];omega);have lV:∀(K:Kn)(L:List aa),(P1 K++L)[6+M.length+4]?=L[4]?:=λK L=>pb K L 4;have q0:∀(K:Kn)(L:List aa),(Q1 K++L)[0]?=some (setH K.aL):=λK L=>(by rw[fZ,SD];exact pg K _ 0 (by omega));have q1:∀(K:Kn)(L:List aa),(Q1 K++L)[1]?=some (.cells (K.l 0) 88):=λK L=>(by rw[fZ,SD];exact pg K _ 1 (by omega));have q4:∀(K:Kn)(L:List aa),(Q1 K++L)[6+M.length+4]?=some pz:=λK L=>(by rw[fZ,SD,lV];rfl);have qc:∀(K:Kn)(L:List aa),(Q1 K++L)[C]?=L[0]?:=λK L=>(by rw[<- JI K];exact aX _ L 0);have MU:∀(K:Kn)(L:List aa)(y:aa),(Q1 K++L).set (6+M.length+4) y=(P1 K++([.cells (h.map iv) 83,.cells x.l 76,.cells (h.map iv) 83,.cells [iv deep] 3,y]++M2))++L:=λK L y=>(by rw[fZ,SD,pq];simp);have ao7:∀(K K':Kn)(L:List aa),((Q1 K++L).set 1 (.cells (K'.l 0) 88)).set 0 (setH K'.aL)=Q1 K'++L:=λK K' L=>(by rw[fZ,fZ,dt,dt];rfl);have eY:∀(AP:Kn),bP (P1 K'++([.cells (h.map iv) 83,.cells x.l 76,.cells (h.map iv) 83,.cells [iv deep] 3,.loop l2 .ready none eQ T2 25 #[18] gA gB 4]++M2))->bP (P1 AP++([.cells (h.map iv) 83,.cells x.l 76,.cells (h.map iv) 83,.cells [iv deep] 3,.loop l2 .ready none eQ T2 25 #[18] gA gB 4]++M2)):=λAP gY=>Ac K' AP _ _ rfl (λq hz=>hz) gY;simp only[cW]at lm;have J':∀z:aa,P1 K'++(aa.cells (U6 iv h) 83::aa.cells x.l 76::aa.cells (U6 iv h) 83::aa.cells [AV.val (SG SF deep)] 3::pz::(M2++[z]))=Q1 K'++[z]:=λz=>(by rw[fZ];simp[iv]);subst oc xq xu;rw[SD];refine vz (id:=6+M.length+4) (by rw[lV];rfl) rfl (by kernel_rfl) λqX Jx=> ?_;simp only[rY];have B_:UD 11 [iv 0,iv 0,iv 0,iv 0,iv 0,iv 0,iv 0,iv 0,iv 0,iv 0,iv 0]=[]:=rfl;refine ak ?_;simp only[seval,qf,B_];unfold tQ;refine⟨none,eQ,_,25,#[18],_,_,_,by rw[lV];rfl,?_⟩;dsimp only;rw[pq];simp only[UC,TZ];rw[<- sJ];have BM:(P1 K').length+(M2.length+1+1+1+1+1)=C:=(by rw[ey,hC];omega);rw[BM];have iG:∀z:aa,(P1 K'++aa.cells (U6 iv h) 83::aa.cells x.l 76::aa.cells (U6 iv h) 83::aa.cells [AV.val (SG SF deep)] 3::pz::(M2++[z]))=Q1 K'++[z]:=J';rw[iG];refine ak ?_;simp only[seval,bS,qc,qf,zS];rw[SY (i:=11) (l:=t.map iv) (by rw[zS];exact SR _)];refine aK ((aio (x:=x) (t:=t) (deep:=deep) (fp:=1) (mp:=0) (Q:=K') hx ht JD (by decide) (q1 K' _) (q0 K' _) ?_));rw[ao7];(try simp only[seval]);show oK _ _ _ _ _ _ _;refine⟨l2,.busy,none,eQ,_,25,#[18],_,_,4,by show (Q1 _++_)[_]?=_;rw[q4,sJ],?_⟩;show cw C ((Q1 _++_).set _ _) _ k2;rw[MU];rw[SD]at lm;exact jR (G:=[.cells (t.map iv) 86]) (Wk.refl _) rfl (by rw[hC];simp[ey];omega) (eY _ qX) (.val _) lm
    ·cases he;exact Ni hx ht JD
    ·rcases SS.1 fb with h'|h'
     ·have h1:=hz (.cells (K'.l 0) 88) (by rw[dt];simp);rw[dt]at h';rcases SS.1 h' with h'|h'
      ·simp only[SL,S4,or_false]at h';rcases h' with rfl|rfl|rfl|rfl|rfl|rfl
       ·trivial
       ·exact xX (Gb h1)
       all_goals exact hz _ (by rw[dt];simp)
      ·exact hz z (by rw[dt];simp[h'])
     ·exact hz z (S6 _ h')
   refine cI (I_ (x:=x) (h:=h) (deep:=deep) (ir:=6+M.length+1) (ih:=6+M.length+1+1) (id:=6+M.length+1+2) (σ:=K) hx oV xo (λK L=> ?_) (λK L=> ?_) (λK L=> ?_) (λn=>by simp[je]) hK (λa ha=>ha.len) CF ?_)
   ·rw[SD];exact pb _ _ 1
   ·rw[SD];exact pb _ _ 2
   ·rw[SD];exact pb _ _ 3
   rw[De (g:=ep x deep) (λ_ _=>rfl)];simp only[fV,S0];have lV:∀(K:Kn)(L:List aa),(P1 K++L)[6+M.length+4]?=L[4]?:=λK L=>pb K L 4;refine⟨.ready,none,_,_,_,_,_,_,_,by rw[lV];rfl,by decide,?_⟩;rw[pq,GQ];(try simp only[seval]);show oK _ _ _ _ _ _ _;have as5:=ld;refine⟨l,.busy,none,fn,_,25,#[13],_,_,4,by show (P1 _++_)[_]?=_;rw[pg _ _ 5 (by omega),ld];rfl,?_⟩;show cw (6+M.length) ((P1 _++_).set _ _) _ k;rw[s5];refine jR (G:=[.cells (h.map iv) 83,.cells x.l 76,.cells (h.map iv) 83,.cells [iv deep] 3,.gone]) (Wk.refl _) rfl (by simp;omega) ?_ (.val _) dD;intro z hz;have h1:=n_ (.cells (K.l 0) 88) (by simp);have hlen:∀(y:aa),([setH (ae' (ep x deep) K (gG x deep h)).aL,aa.cells ((ae' (ep x deep) K (gG x deep h)).l 0) 88,.cells x.l 76,.cells [iv bh] 3,.obj (.deferred (some [])),y]++M).length=(setH K.aL::aa.cells (K.l 0) 88::aa.cells x.l 76:: .cells [iv bh] 3:: .obj (.deferred (some []))::y::M).length:=λy=>rfl;rcases SS.1 hz with h'|h'
   ·simp only[SL,S4,or_false]at h';rcases h' with rfl|rfl|rfl|rfl|rfl|rfl
    ·trivial
    ·exact xX (Gb h1)
    all_goals exact n_ _ (by simp)
   ·exact n_ z (by simp[h'])
  ·cases he;exact Jl hx (λt ht=>by obtain⟨ns,h1,h2⟩:=Ns ht;exact ha.2 ns h1 t h2) hK
 have hgo:bE (λK h=>dA.go ((gG x deep h).foldl (ep x deep) K)) (jA x bh) Kn.zero=.go (gH x deep bh):=by
  rw[De (g:=λK h=>(gG x deep h).foldl (ep x deep) K) (λ_ _=>rfl),gH,List.foldl_flatMap]
 refine Iq (by kernel_rfl) ?_;have e0:=ue Kn.zero;simp only[iv]at e0;rw[<- e0];refine I8 (lv:=lv) (x:=x) (bh:=bh) (N:=6) (ir:=2) (it:=3) (σ:=Kn.zero) hx hY (λK L=>by rw[ue];rfl) (λK L=>by rw[ue];rfl) lP (λn=>by simp[je]) CU hA ?_;rw[hgo];simp only[fV,S0];refine⟨.ready,none,_,_,_,_,_,_,_,by rw[ue];rfl,by decide,?_⟩;rw[ue,GP];exact hΦ
open Go.Conc
inductive Ht where
 |z
 |s (f:Tq->Ht)
inductive AL:Ht->Ht->Prop where
 |mk (f:Tq->Ht) (w:Tq):AL (f w) (.s f)
theorem alo:WellFounded AL:=by
 refine⟨λh=> ?_⟩;induction h with
 |z=>exact⟨_,λy hy=>by cases hy⟩
 |s f ih=>exact⟨_,λy hy=>by cases hy with|mk _ w=>exact ih w⟩
inductive lD (P:SJ):Ht->View->SH->Prop where
 |step {f:Tq->Ht} {V V₁:View} {g:SH} (G':Tq->SH) (W':Tq->Tq) (E':Tq->Array Uo) (V':Tq->View) (hs:g.status=.running) (hg:dW V V₁)
   (h1:∀w,Sat V₁ w->stepG P false g w=.go (G' w) (W' w) (E' w)) (h2:∀w,Sat V₁ w->dc V₁ w (V' w) (W' w) (E' w)) (h3:∀w,Sat V₁ w->lD P (f w) (V' w) (G' w)):lD P (.s f) V g
 |send {h:Ht} {V V₁:View} {g:SH} (c Wg:Nat) (sp:Spec) (S:List Spec) (v z:SP) (B:Nat->Bool) (hs:g.status=.running) (hg:dW V V₁) (hr:V₁.role=.work c Wg (sp::S)) (hd:V₁.deaf=0) (ho:g.offers=none)
   (h1:∀w,Sat V₁ w->stepG P false g w=.comm g #[scase c v z] true .send w #[]) (h2:sp v V₁.ab (λb=>if B b then V₁.own b else none))
   (h3:lD P h {V₁ with own:=λb=>if B b then none else V₁.own b,role:=.work c Wg S} (T4 g undef)):lD P (.s λ_=>h) V g
 |done {V V₁:View} {g:SH} (c Wg:Nat) (hg:dW V V₁) (hr:V₁.role=.work c Wg []) (hd:V₁.deaf=0) (h1:DZ P Wg g):lD P (.s λ_=> .z) V g
 |slip {h:Ht} {V V₁:View} {g g':SH} (c Wg:Nat) (hs:g.status=.running) (hg:dW V V₁) (hr:V₁.role=.work c Wg []) (h1:∀w st,Sat V₁ w->WgAt P Wg w st 0->stepG P false g w=.go g' w #[]) (h3:lD P h V₁ g'):lD P (.s λ_=>h) V g
theorem lD.running{P:SJ}{h:Ht}{V:View}{g:SH}(k:lD P h V g):g.status=.running:=by
 cases k with
 |step _ _ _ _ hs=>exact hs
 |send _ _ _ _ _ _ _ hs=>exact hs
 |done _ _ _ _ _ h1=>exact h1.1
 |slip _ _ hs=>exact hs
open Classical in
theorem arT(P:SJ):yq P false (λV g=>∃h,lD P h V g)where
 step V g hs h:=by
  have hc:∀w,∃h' g' w' es V',Sat V w->stepG P false g w=.go g' w' es/\dc V w V' w' es/\lD P h' V' g':=by
   intro w;by_cases hw:Sat V w
   ·obtain⟨g',w',es,V',h1,h2,h',h3⟩:=h w hw;exact⟨h',g',w',es,V',λ_=>⟨h1,h2,h3⟩⟩
   ·exact⟨.z,g,w,#[],V,λx=>absurd x hw⟩
  have oR:=λw=>(hc w).choose_spec.choose_spec.choose_spec.choose_spec.choose_spec;exact⟨.s λw=>(hc w).choose,.step (λw=>(hc w).choose_spec.choose) (λw=>(hc w).choose_spec.choose_spec.choose) (λw=>(hc w).choose_spec.choose_spec.choose_spec.choose)
   (λw=>(hc w).choose_spec.choose_spec.choose_spec.choose_spec.choose) hs (dW.refl V) (λw hw=>(oR w hw).1) (λw hw=>(oR w hw).2.1) (λw hw=>(oR w hw).2.2)⟩
 ghost V V' g hg h:=by
  obtain⟨h,hk⟩:=h;cases hk with
  |step a b c d e f x y z=>exact⟨_,.step a b c d e (hg.trans f) x y z⟩
  |send a b c d e f m n o p q r s t u=>exact⟨_,.send a b c d e f m n (hg.trans o) p q r s t u⟩
  |done a b o p q r=>exact⟨_,.done a b (hg.trans o) p q r⟩
  |slip a b f o p q r=>exact⟨_,.slip a b f (hg.trans o) p q r⟩
 send V g c Wg sp S v z B h1 h2 h3 h4 h5 h6 h7:=by
  obtain⟨h,hk⟩:=h7;exact⟨_,.send c Wg sp S v z B h3 (dW.refl V) h1 h2 h4 h5 h6 hk⟩
 done V g c Wg h1 h2 h3:=⟨_,.done c Wg (dW.refl V) h1 h2 h3⟩
 slip V g g' c Wg h1 h2 h3 h4:=by
  obtain⟨h,hk⟩:=h4;exact⟨_,.slip c Wg h2 (dW.refl V) h1 h3 hk⟩
structure yE where
 a:Nat
 h:Ht
 n:Nat
def qF:yE->yE->Prop:=λx y=>x.a<y.a\/(x.a=y.a/\(AL x.h y.h\/(x.h=y.h/\x.n<y.n)))
theorem apc:WellFounded qF:=by
 refine⟨λ⟨a,h,n⟩=> ?_⟩;induction a using Ym generalizing h n with
 |_ a iha=>
  induction h using alo.induction generalizing n with
  |_ h ihh=>
   induction n using Ym with
   |_ n Lu=>
    refine⟨_,λ⟨a',h',n'⟩ hlt=> ?_⟩;rcases hlt with x|⟨rfl,x|⟨rfl,x⟩⟩
    ·exact iha a' x h' n'
    ·exact ihh h' x n'
    ·exact Lu n' x
def A1 (N:Nat)(f' f:Nat->yE):Prop:=∃i,i<N/\qF (f' i) (f i)/\∀j,j≠i->f' j=f j
theorem aqi(N:Nat):WellFounded (A1 N):=by
 refine⟨?_⟩;induction N with
 |zero=>intro f;exact⟨_,λf' ⟨i,hi,_⟩=>by omega⟩
 |succ N ih=>
  have key:∀x:yE,∀f,f N=x->Acc (A1 (N+1)) f:=by
   intro x;induction x using apc.induction with
   |_ x ihx=>
    intro f hf;have inner:∀f,Acc (A1 N) f->f N=x->Acc (A1 (N+1)) f:=by
     intro f ha;induction ha with
     |intro f _ Ls=>
      intro hf;refine⟨_,λf' ⟨i,hi,hlt,ho⟩=> ?_⟩;by_cases fy:i=N
      ·subst fy;exact ihx (f' i) (hf▸hlt) f' rfl
      ·exact Ls f' ⟨i,by omega,hlt,ho⟩ ((ho N (Ne.symm fy)).trans hf)
    exact inner f (ih f) hf
  exactλf=>key (f N) f rfl
def AX (N:Nat)(x y:(Nat->yE)×Nat):Prop:=A1 N x.1 y.1\/(x.1=y.1/\x.2<y.2)
theorem aa0(N:Nat):WellFounded (AX N):=by
 refine⟨λ⟨f,n⟩=> ?_⟩;induction f using(aqi N).induction generalizing n with
 |_ f Ls=>
  induction n using Ym with
  |_ n Lu=>
   refine⟨_,λ⟨f',n'⟩ hlt=> ?_⟩;rcases hlt with x|⟨x,y⟩
   ·exact Ls f' x n'
   ·have x':f'=f:=x;subst x';exact Lu n' y
open Go.ConcN
structure TI (t:Uk)(B N:Nat)(rd wr:Nat->Loc->Prop)(Sh:Loc->Prop)(act:Nat->Prop)(ic:Nat):Prop where
 nr:∀said,¬Race said t
 low:∀op∈t,op.act.low B
 gs:∀op∈t,op.g<N
 norel:∀op∈t,∀a,op.act≠ .mark (.release a)
 kr:∀i,i<N->∀l,rd i l->PermW t i l
 kw:∀i,i<N->∀l,wr i l->Perm t i l
 sp:∀idx a,touchAt t idx=some a->Sh a.loc->(a.kind=.plain->∀i,act i->Wo t i idx)/\(a.kind=.said->Wo t ic idx)
def Fit (B:Nat)(rd wr:Nat->Loc->Prop)(Sh:Loc->Prop)(act:Nat->Prop)(ic i:Nat)(x:YN):Prop:=
 (Sh x.loc/\x.kind=.atomic/\act i)\/(Sh x.loc/\x.kind=.said/\i=ic/\act i)\/(¬Sh x.loc/\(wr i x.loc\/(rd i x.loc/\x.write=false)\/¬x.loc.low B))
theorem amS{B:Nat}{m:MemAct}(h:m.low B){x:YN}(hx:m.touch?=some x):x.loc.low B:=by
 cases m with
 |access e=>simp only[We,Tn]at hx;subst hx;exact h
 |mark m=>cases m<;>simp[We]at hx<;>(subst hx;exact h)
 |_=>simp[We]at hx
theorem Nq{t:Uk}{B:Nat}(h:∀op∈t,op.act.low B){idx:Nat}{a:YN}(ha:touchAt t idx=some a):a.loc.low B:=by
 obtain⟨x,hx,qi⟩:=UV ha;exact amS (h x (XR hx)) qi
theorem Az{t u:Uk}{idx:Nat}{a:YN}(h:touchAt (t++u) idx=some a):touchAt t idx=some a\/(t.size<=idx/\∃op∈u,(t++u)[idx]?=some op/\op.act.touch?=some a):=by
 obtain⟨x,hx,qi⟩:=UV h;rcases Xj hx with⟨_,jE⟩|⟨hi,hu⟩
 ·exact .inl (by rw[touchAt_of jE];exact qi)
 ·exact .inr ⟨hi,x,hu,hx,qi⟩
theorem TI.app{t:Uk}{B N B':Nat}{rd wr rd' wr':Nat->Loc->Prop}{Sh:Loc->Prop}{act:Nat->Prop}{ic:Nat}(h:TI t B N rd wr Sh act ic){u:Uk}{i:Nat}(hi:i<N)(hu:∀op∈u,op.g=i)
  (hf:∀op∈u,∀x,op.act.touch?=some x->Fit B rd wr Sh act ic i x) (hl:∀op∈u,op.act.low B') (hB:B<=B') (hn:∀op∈u,∀a,op.act≠ .mark (.release a))
  (KW:∀j l,j≠i->rd' j l->rd j l) (rF:∀j l,j≠i->wr' j l->wr j l) (hri:∀l,rd' i l->l.low B->rd i l\/wr i l) (xU:∀l,wr' i l->l.low B->wr i l)
  (ex:∀l j,j≠i->(wr i l->¬rd j l/\¬wr j l)/\(rd i l->¬wr j l)) (G8:∀l j,Sh l->¬rd j l/\¬wr j l) (aaM:∀j l,rd j l\/wr j l->l.low B):
  TI (t++u) B' N rd' wr' Sh act ic where
 nr said:=by
  refine noRace_append (h.nr said) hu λidx a ha op au b hb hc=> ?_;have bi:=hc;obtain⟨cN,_,Kv,pY⟩:=hc;rcases hf op au b hb with⟨h1,h2,h3⟩|⟨h1,h2,h3,h4⟩|⟨_,h2|⟨h2,h3⟩|h2⟩
  ·rw[h2]at pY;rcases pY with x|x|⟨_,_,x⟩
   ·exact(h.sp idx a ha (cN▸h1)).1 x i h3
   ·cases x
   ·cases x
  ·rw[h2]at pY;rcases pY with x|x|⟨_,x,_⟩
   ·exact(h.sp idx a ha (cN▸h1)).1 x i h4
   ·cases x
   ·rw[h3];exact(h.sp idx a ha (cN▸h1)).2 x
  ·exact h.kw i hi _ h2 idx a ha cN
  ·exact h.kr i hi _ h2 idx a ha cN (by rw[h3]at Kv;simpa using Kv)
  ·exact absurd (cN▸Nq h.low ha) h2
 low op au:=(Us.1 au).elim (λx=>Zo hB (h.low op x)) (hl op)
 gs op au:=(Us.1 au).elim (h.gs op) (λx=>by rw[hu op x];exact hi)
 norel op au:=(Us.1 au).elim (h.norel op) (hn op)
 kr j hj l ux:=by
  by_cases cp:j=i
  ·subst cp;intro idx a ha gD hw;rcases Az ha with f_|⟨_,op,au,cY,hx⟩
   ·have gZ:l.low B:=gD▸Nq h.low f_;rcases hri l ux gZ with x|x
    ·exact(h.kr j hj l x idx a f_ gD hw).app u
    ·exact(h.kw j hj l x idx a f_ gD).app u
   ·have:=Zh cY;rwa [hu op au]at this
  ·have Cy:=KW j l cp ux;refine(h.kr j hj l Cy).app λop au b hb cL hw=> ?_;exfalso;rcases hf op au b hb with⟨h1,_⟩|⟨h1,_⟩|⟨_,h2|⟨_,h3⟩|h2⟩
   ·exact(G8 l j (cL▸h1)).1 Cy
   ·exact(G8 l j (cL▸h1)).1 Cy
   ·exact((ex l j cp).1 (cL▸h2)).1 Cy
   ·rw[h3]at hw;cases hw
   ·exact h2 (cL▸aaM j l (.inl Cy))
 kw j hj l rE:=by
  by_cases cp:j=i
  ·subst cp;intro idx a ha gD;rcases Az ha with f_|⟨_,op,au,cY,hx⟩
   ·exact(h.kw j hj l (xU l rE (gD▸Nq h.low f_)) idx a f_ gD).app u
   ·have:=Zh cY;rwa [hu op au]at this
  ·have o6:=rF j l cp rE;refine(h.kw j hj l o6).app λop au b hb cL=> ?_;exfalso;rcases hf op au b hb with⟨h1,_⟩|⟨h1,_⟩|⟨_,h2|⟨h2,_⟩|h2⟩
   ·exact(G8 l j (cL▸h1)).2 o6
   ·exact(G8 l j (cL▸h1)).2 o6
   ·exact((ex l j cp).1 (cL▸h2)).2 o6
   ·exact(ex l j cp).2 (cL▸h2) o6
   ·exact h2 (cL▸aaM j l (.inr o6))
 sp idx a ha dQ:=by
  rcases Az ha with f_|⟨_,op,au,cY,hx⟩
  ·exact⟨λhp j hj=>((h.sp idx a f_ dQ).1 hp j hj).app u,λhp=>((h.sp idx a f_ dQ).2 hp).app u⟩
  ·rcases hf op au a hx with⟨_,h2,_⟩|⟨_,h2,h3,_⟩|⟨h1,_⟩
   ·exact⟨λhp=>absurd (h2.symm.trans hp) (by simp),λhp=>absurd (h2.symm.trans hp) (by simp)⟩
   ·refine⟨λhp=>absurd (h2.symm.trans hp) (by simp),λ_=> ?_⟩;have:=Zh cY;rw[hu op au,h3]at this;exact this
   ·exact absurd dQ h1
theorem TI.weaken{t:Uk}{B N B':Nat}{rd wr rd' wr':Nat->Loc->Prop}{Sh NZ:Loc->Prop}{act act':Nat->Prop}{ic kH:Nat}(h:TI t B N rd wr Sh act ic)(hB:B<=B')
  (KW:∀i l,i<N->rd' i l->rd i l\/wr i l) (rF:∀i l,i<N->wr' i l->wr i l)
  (xO:∀idx a,touchAt t idx=some a->NZ a.loc->(a.kind=.plain->∀i,act' i->Wo t i idx)/\(a.kind=.said->Wo t kH idx)):TI t B' N rd' wr' NZ act' kH:=
 ⟨h.nr,λop au=>Zo hB (h.low op au),h.gs,h.norel,λi hi l x=>(KW i l hi x).elim (h.kr i hi l) (λy=>PermW.of (h.kw i hi l y)),λi hi l x=>h.kw i hi l (rF i l hi x),xO⟩
theorem ano{t u:Uk}(h:∀said,¬Race said t)(hn:∀op∈u,op.act.touch?=none):∀said,¬Race said (t++u):=by
 intro said
 rintro⟨i,j,kg,⟨a,b,ha,hb,hc⟩,n1,n2⟩
 have old:∀{k:Nat}{x:YN},((t++u).act? k).bind (·.touch?)=some x->k<t.size/\(t.act? k).bind (·.touch?)=some x:=by
  intro k x hx;obtain⟨y,hy,Lj⟩:=UV hx;rcases Xj hy with⟨hk,o_⟩|⟨_,hyu⟩
  ·exact⟨hk,by simp[Trace.act?,o_,Lj]⟩
  ·rw[hn y hyu]at Lj;cases Lj
 exact h said ⟨i,j,kg,⟨a,b,(old ha).2,(old hb).2,hc⟩,λe=>n1 (hb_app u e),λe=>n2 (hb_app u e)⟩
theorem AA{t u:Uk}(hn:∀op∈u,op.act.touch?=none){idx:Nat}{a:YN}(h:touchAt (t++u) idx=some a):touchAt t idx=some a:=by
 rcases Az h with h|⟨_,op,au,_,hx⟩
 ·exact h
 ·rw[hn op au]at hx;cases hx
theorem TI.mute{t:Uk}{B N N':Nat}{rd wr rd' wr':Nat->Loc->Prop}{Sh:Loc->Prop}{act act':Nat->Prop}{ic kH:Nat}(h:TI t B N rd wr Sh act ic){u:Uk}(hn:∀op∈u,op.act.touch?=none)(hl:∀op∈u,op.act.low B)(hg:∀op∈u,op.g<N')(hN:N<=N')
  (rn:∀op∈u,∀a,op.act≠ .mark (.release a))
  (kr:∀i,i<N'->∀l,rd' i l->∀idx a,touchAt t idx=some a->a.loc=l->a.write=true->Wo (t++u) i idx) (kw:∀i,i<N'->∀l,wr' i l->∀idx a,touchAt t idx=some a->a.loc=l->Wo (t++u) i idx)
  (sp:∀idx a,touchAt t idx=some a->Sh a.loc->(a.kind=.plain->∀i,act' i->Wo (t++u) i idx)/\(a.kind=.said->Wo (t++u) kH idx)):TI (t++u) B N' rd' wr' Sh act' kH:=
 ⟨ano h.nr hn,λop au=>(Us.1 au).elim (h.low op) (hl op),λop au=>(Us.1 au).elim (λx=>Te (h.gs op x) hN) (hg op),λop au=>(Us.1 au).elim (h.norel op) (rn op),
  λi hi l x idx a ha=>kr i hi l x idx a (AA hn ha),λi hi l x idx a ha=>kw i hi l x idx a (AA hn ha),λidx a ha=>sp idx a (AA hn ha)⟩
theorem qT{t u:Uk}{k:Nat}{x:Wd}(h:u[k]?=some x):(t++u)[t.size+k]?=some x:=by
 rw[X2 (by omega)];simpa using h
theorem heard_new{t u:Uk}{k g:Nat}{x:Wd}(h:u[k]?=some x)(hx:x.g=g)(hd:(t++u).deaf g (t.size+k)=0):(t++u).heard (t.size+k):=⟨g,by simp[WC,qT h,hx],hd⟩
def still (m:MemAct):Prop:=m≠ .mark .disable/\m≠ .mark .enable
theorem IA{g d:Nat}{y:Wd}(h:still y.act):deafStep g d y=d:=by
 unfold deafStep;obtain⟨_,_,_,act⟩:=y;cases act with
 |mark m=>cases m<;>first|rfl|exact absurd rfl h.1|exact absurd rfl h.2
 |_=>rfl
theorem tZ{t u:Uk}{g:Nat}(hs:∀op∈u,still op.act):∀{k:Nat},k<=u.size->(t++u).deaf g (t.size+k)=UT t g:=by
 intro k;induction k with
 |zero=>intro _;exact deaf_old (SR _)
 |succ k ih=>
  intro hk;have hlt:k<u.size:=by omega
  have hy:u[k]?=some u[k]:=SK hlt;have e:=ad_ (g:=g) (qT (t:=t) hy);rw[show t.size+(k+1)=t.size+k+1 from rfl,e,ih (by omega),IA (hs _ (XS hlt))]
theorem Deaf_still{t u:Uk}{g:Nat}(hs:∀op∈u,still op.act):UT (t++u) g=UT t g:=by
 have:=tZ (t:=t) (g:=g) hs (SR u.size);unfold UT;rw[XA];exact this
theorem am4{t u:Uk}{k c s:Nat}{x0 x1 x2 x3:Wd}(hu:u=#[x0,x1,x2,x3]) (h0:x0.g=k/\x0.act=.send c s) (h1:still x1.act) (h2:still x2.act) (h3:x3.g=0/\x3.act=.recvDone c s) (dk:UT t k=0) (d0:UT t 0=0) {idx:Nat} (h:Wo t k idx):Wo (t++u) 0 idx:=by
 have hs:∀op∈u,still op.act:=by
  subst hu;intro op au;simp only[TJ,SL,S4,or_false]at au;rcases au with rfl|rfl|rfl|rfl
  ·rw[h0.2];exact⟨by simp,by simp⟩
  ·exact h1
  ·exact h2
  ·rw[h3.2];exact⟨by simp,by simp⟩
 have e0:u[0]?=some x0:=by subst hu;rfl
 have e3:u[3]?=some x3:=by subst hu;rfl
 have aV:u.size=4:=by subst hu;rfl
 have g0:=qT (t:=t) e0;have g3:=qT (t:=t) e3;have hh0:(t++u).heard (t.size+0):=heard_new e0 h0.1 (by rw[tZ hs (by omega)];exact dk);have Rp:(t++u).heard (t.size+3):=heard_new e3 h3.1 (by rw[tZ hs (by omega)];exact d0);have hb:HappensBefore (t++u) idx (t.size+0):=h.hb_new (by omega) g0 h0.1;exact⟨_,x3,g3,h3.1,.inr (hb.trans (.single (.inr ⟨.handOver (c:=c) (k:=s) (by rw[ai_ g0,h0.2]) (by rw[ai_ g3,h3.2]),hh0,Rp⟩)))⟩
theorem aez{t:Uk}{a:U3}{r q i:Nat}{y:Wd}(hr:t.act? r=some (.mark (.releaseMerge a)))(hh:t.heard r)(hn:∀op∈t,∀a,op.act≠ .mark (.release a))(hy:y.g=q/\y.act=.mark (.acquire a))(hd:UT t q=0)(hb:Before t i r):Wo (t++#[y]) q i:=by
 have e:(#[y]:Uk)[0]?=some y:=rfl;have g:=qT (t:=t) e;have ux:=Wb hr;have aQ:∀op∈(#[y]:Uk),still op.act:=by
  intro op au;simp only[TJ,SL,S4,or_false]at au;subst au;rw[hy.2];exact⟨by simp,by simp⟩
 have Kl:(t++#[y]).heard (t.size+0):=heard_new e hy.1 (by rw[tZ aQ (by simp)];exact hd);refine⟨_,y,g,hy.1,.inr ((hb.app #[y]).hb (.single (.inr ⟨.marked (a:=a) (by omega) (.inr (by rw[X0 ux];exact hr)) (by rw[ai_ g,hy.2]) (λk gO b_ e'=> ?_),(Ws ux).2 hh,Kl⟩)))⟩;obtain⟨op,ho,hoa⟩:=Ts.1 e';rcases Xj ho with⟨_,bc⟩|⟨hk,_⟩
 ·exact hn op (XR bc) a hoa
 ·omega
theorem agl{t:Uk}{c p q i:Nat}{y:Wd}(hp:t.act? p=some (.close c))(hh:t.heard p)(hy:y.g=q/\y.act=.recvClosed c)(hd:UT t q=0)(hb:Before t i p):Wo (t++#[y]) q i:=by
 have e:(#[y]:Uk)[0]?=some y:=rfl;have g:=qT (t:=t) e;have cO:=Wb hp;have aQ:∀op∈(#[y]:Uk),still op.act:=by
  intro op au;simp only[TJ,SL,S4,or_false]at au;subst au;rw[hy.2];exact⟨by simp,by simp⟩
 have Kl:(t++#[y]).heard (t.size+0):=heard_new e hy.1 (by rw[tZ aQ (by simp)];exact hd);exact⟨_,y,g,hy.1,.inr ((hb.app #[y]).hb (.single (.inr ⟨.closed (c:=c) (by rw[X0 cO];exact hp) (by rw[ai_ g,hy.2]),(Ws cO).2 hh,Kl⟩)))⟩
def jL (U V:View):Prop:=∀b,U.own b≠none->V.own b=none/\∀o,V.ab b o≠none->U.ab b o≠none
def gJ (V:View):Loc->Prop
 |.cell a=>V.own a.block≠none\/V.ab a.block a.off≠none
 |.obj r=>V.own r≠none
 |_=>False
def jM (V:View):Loc->Prop
 |.cell a=>V.own a.block≠none/\V.ab a.block a.off=none
 |.obj r=>V.own r≠none
 |_=>False
theorem jM.rd{V:View}:∀{l:Loc},jM V l->gJ V l
 |.cell _,h=> .inl h.1
 |.obj _,h=>h
theorem dc.others{V V' U:View}{w w':Tq}{es:Array Uo}(s:dc V w V' w' es)(hV:Sat V w)(h:Sat U w)(d:jL V U):Sat U w':=by
 refine⟨λb o v e=> ?_,λb x e=> ?_⟩
 ·have hc:=h.ab b o v e;have hb:=h.CP e;cases ho:V.own b with
  |none=>
   have:=s.frame b hb ho;simp only[Ux,this]at hc⊢;exact hc
  |some x=>
   have hp:=(d b (by rw[ho];simp)).2 o (by rw[e];simp);cases hi:V.ab b o with
   |none=>exact absurd hi hp
   |some v'=>
    have e1:=hV.ab b o v' hi;rw[hc]at e1;cases e1;exact s.sat.ab b o v (s.ab b o v hi)
 ·have hb:=h.lt e;have ho:V.own b=none:=by
   cases ho:V.own b with
   |none=>rfl
   |some y=>rw[(d b (by rw[ho];simp)).1]at e;cases e
  rw[s.frame b hb ho];exact h.own b x e
theorem dc.vB{V V' U:View}{w w':Tq}{es:Array Uo}(s:dc V w V' w' es)(h:Sat U w)(d:jL V U)(d':jL U V):jL V' U/\jL U V':=by
 have key:∀b,V'.own b≠none->V.own b≠none\/w.heap.size<=b:=by
  intro b hb;by_cases hlt:b<w.heap.size
  ·exact .inl λe=>hb (s.own b hlt e)
  ·exact .inr (by omega)
 refine⟨λb hb=> ?_,λb hb=> ?_⟩
 ·rcases key b hb with x|x
  ·refine⟨(d b x).1,λo ho=> ?_⟩;have:=(d b x).2 o ho;cases e:V.ab b o with
   |none=>exact absurd e this
   |some v=>rw[s.ab b o v e];simp
  ·have:=h.fresh x;exact⟨this.1,λo ho=>absurd (this.2 o) ho⟩
 ·have hlt:b<w.heap.size:=by
   cases e:U.own b with
   |none=>exact absurd e hb
   |some x=>exact h.lt e
  refine⟨?_,λo ho=> ?_⟩
  ·exact s.own b hlt (d' b hb).1
  ·cases e:V'.ab b o with
   |none=>exact absurd e ho
   |some v=>
    rcases s.kI b o v e with x|x|x
    ·exact(d' b hb).2 o (by rw[x];simp)
    ·exact absurd (d' b hb).1 x
    ·omega
theorem dW.vB{V V' U:View}(g:dW V V')(d:jL V U)(d':jL U V):jL V' U/\jL U V':=by
 refine⟨λb hb=> ?_,λb hb=>⟨g.own b (d' b hb).1,λo ho=> ?_⟩⟩
 ·have x:V.own b≠none:=λe=>hb (g.own b e);refine⟨(d b x).1,λo ho=> ?_⟩;cases e:V.ab b o with
  |none=>exact absurd e ((d b x).2 o ho)
  |some v=>rw[g.ab b o v e];simp
 ·cases e:V'.ab b o with
  |none=>exact absurd e ho
  |some v=>
   rcases g.kI b o v e with x|x
   ·exact(d' b hb).2 o (by rw[x];simp)
   ·exact absurd (d' b hb).1 x
theorem dW.rd{V V':View}(g:dW V V'):∀{l:Loc},gJ V' l->gJ V l
 |.cell a,h=>by
  rcases h with h|h
  ·exact .inl λe=>h (g.own _ e)
  ·cases e:V'.ab a.block a.off with
   |none=>exact absurd e h
   |some v=>exact(g.kI _ _ _ e).elim (λx=> .inr (by rw[x];simp)) .inl
 |.obj _,h=>λe=>h (g.own _ e)
theorem dW.wr{V V':View}(g:dW V V'):∀{l:Loc},jM V' l->jM V l
 |.cell a,h=>⟨λe=>h.1 (g.own _ e),by
  cases e:V.ab a.block a.off with
  |none=>rfl
  |some v=>exact absurd (g.ab _ _ _ e) (by rw[h.2];simp)⟩
 |.obj _,h=>λe=>h (g.own _ e)
theorem gJ.low{V:View}{w:Tq}(h:Sat V w):∀{l:Loc},gJ V l->l.low w.heap.size
 |.cell a,x=>by
  rcases x with x|x
  ·cases e:V.own a.block with
   |none=>exact absurd e x
   |some y=>exact h.lt e
  ·cases e:V.ab a.block a.off with
   |none=>exact absurd e x
   |some y=>exact h.CP e
 |.obj r,x=>by
  cases e:V.own r with
  |none=>exact absurd e x
  |some y=>exact h.lt e
theorem dc.rd{V V':View}{w w':Tq}{es:Array Uo}(s:dc V w V' w' es):∀{l:Loc},gJ V' l->l.low w.heap.size->gJ V l
 |.cell a,h,hl=>by
  have eN:a.block<w.heap.size:=hl;rcases h with h|h
  ·exact .inl λe=>h (s.own _ eN e)
  ·cases e:V'.ab a.block a.off with
   |none=>exact absurd e h
   |some v=>
    rcases s.kI _ _ _ e with x|x|x
    ·exact .inr (by rw[x];simp)
    ·exact .inl x
    ·omega
 |.obj r,h,hl=>λe=>h (s.own _ hl e)
theorem dc.wr{V V':View}{w w':Tq}{es:Array Uo}(s:dc V w V' w' es):∀{l:Loc},jM V' l->l.low w.heap.size->jM V l
 |.cell a,h,hl=>⟨λe=>h.1 (s.own _ hl e),by
  cases e:V.ab a.block a.off with
  |none=>rfl
  |some v=>exact absurd (s.ab _ _ _ e) (by rw[h.2];simp)⟩
 |.obj r,h,hl=>λe=>h (s.own _ hl e)
theorem agF{U V:View}(d:jL U V)(d':jL V U)(l:Loc):(jM U l->¬gJ V l/\¬jM V l)/\(gJ U l->¬jM V l):=by
 cases l with
 |cell a=>
  refine⟨λh=> ?_,λh=> ?_⟩
  ·have:=d _ h.1;refine⟨λx=> ?_,λx=>x.1 this.1⟩;rcases x with x|x
   ·exact x this.1
   ·exact this.2 _ x h.2
  ·intro x;have:=d' _ x.1;rcases h with h|h
   ·exact h this.1
   ·exact this.2 _ h x.2
 |obj r=>exact⟨λh=>⟨λx=>x (d r h).1,λx=>x (d r h).1⟩,λh x=>h (d' r x).1⟩
 |_=>exact⟨λh=>h.elim,λh=>h.elim⟩
def qG (c Wg:Nat):Loc->Prop
 |.cell a=>a.block=Wg
 |.obj r=>r=c
 |_=>False
structure Core (VV:Nat->View)(N:Nat)(w:Tq)(t:Uk)(Sh:Loc->Prop)(act:Nat->Prop)(ic n0:Nat)(W0:Tq):Prop where
 sat:∀i,i<N->Sat (VV i) w
 dJ:∀i j,i<N->j<N->i≠j->jL (VV i) (VV j)
 ti:TI t w.heap.size N (λi l=>i<N/\gJ (VV i) l/\¬Sh l) (λi l=>i<N/\jM (VV i) l/\¬Sh l) Sh act ic
 tape:w.tape=W0.tape
 os:w.os=W0.os
 out:w.output=W0.output
 old:∀b,b<n0->w.heap[b]?=W0.heap[b]?
 jh:∀i,i<N->∀b,b<n0->(VV i).own b=none
 n0:n0<=w.heap.size
def upd {α:Type}(f:Nat->α)(i:Nat)(x:α):Nat->α:=λj=>if j=i then x else f j
theorem bw{α:Type}(f:Nat->α)(i:Nat)(x:α):upd f i x i=x:=by simp[upd]
theorem a_{α:Type}(f:Nat->α){i j:Nat}(x:α)(h:j≠i):upd f i x j=f j:=by simp[upd,h]
section
variable {VV:Nat->View}{N:Nat}{w w':Tq}{t:Uk}{Sh:Loc->Prop}{act:Nat->Prop}{ic n0 i:Nat}{W0:Tq}
theorem Core.draw(h:Core VV N w t Sh act ic n0 W0)(d:Nat):Core VV N (w.at d) t Sh act ic n0 W0:=
 ⟨λi hi=>⟨(h.sat i hi).ab,(h.sat i hi).own⟩,h.dJ,h.ti,h.tape,h.os,h.out,h.old,h.jh,h.n0⟩
theorem IX{V:View}{B:Nat}{e:Uo}(he:mX V B e){x:YN}(hx:(Tt e).touch?=some x):(jM V x.loc\/(gJ V x.loc/\x.write=false)\/¬x.loc.low B)/\
  (∀c,V.role.chan=some c->x.loc≠ .obj c)/\(∀Wg a,V.role.group=some Wg->x.loc=.cell a->a.block=Wg->x.kind≠ .plain):=by
 obtain⟨l,wr,s⟩:=e;cases l with
 |cell a=>
  simp only[apH,We,Tn]at hx;subst hx;cases wr with
  |false=>
   refine⟨?_,λc _=>by simp,λWg a' hr ha hb=> ?_⟩
   ·rcases he.1 with h|h|h
    ·exact .inr (.inr (by show ¬a.block<B;omega))
    ·exact .inr (.inl ⟨.inl h,rfl⟩)
    ·exact .inr (.inl ⟨.inr h,rfl⟩)
   ·cases ha;rcases he.2 with h|h
    ·subst h;simp
    ·subst hb;exact absurd hr h
  |true=>
   refine⟨?_,λc _=>by simp,λWg a' hr ha hb=> ?_⟩
   ·rcases he.1 with h|h
    ·exact .inr (.inr (by show ¬a.block<B;omega))
    ·exact .inl h
   ·cases ha;rcases he.2 with h|h
    ·subst h;simp
    ·subst hb;exact absurd hr h
 |obj r=>
  obtain⟨⟨rfl,h2⟩,h3⟩:=he;have e1:Tt ⟨.obj r,wr,false⟩=.access ⟨.obj r,wr,false⟩:=by cases wr<;>rfl
  rw[e1]at hx;simp only[We,Tn]at hx;subst hx;refine⟨?_,λc hc e=> ?_,λWg a _ ha=>by cases ha⟩
  ·rcases h2 with h|h
   ·exact .inr (.inr (by show ¬r<B;omega))
   ·exact .inl h
  ·cases e;exact h3 hc
 |mark m=>
  have e1:Tt ⟨.mark m,wr,s⟩=.mark m:=by cases wr<;>cases s<;>rfl
  rw[e1]at hx;cases m<;>simp only[We,Tn,reduceCtorEq]at hx
  all_goals
   subst hx;refine⟨?_,λc _=>by simp,λWg a' _ _ _=>by simp⟩;have j9:mD V B _:=he;rcases j9 with h|h
   ·exact .inr (.inr (by simp only[Loc.low];omega))
   ·exact .inl h
 |_=>exact he.elim
theorem Core.PH(h:Core VV N w t Sh act ic n0 W0)(l:Loc){i j:Nat}(hi:i<N)(hj:j≠i):
  ((i<N/\jM (VV i) l/\¬Sh l)->¬(j<N/\gJ (VV j) l/\¬Sh l)/\¬(j<N/\jM (VV j) l/\¬Sh l))/\((i<N/\gJ (VV i) l/\¬Sh l)->¬(j<N/\jM (VV j) l/\¬Sh l)):=by
 by_cases Cg:j<N
 ·have:=agF (h.dJ i j hi Cg (Ne.symm hj)) (h.dJ j i Cg hi hj) l;exact⟨λ⟨_,x,_⟩=>⟨λ⟨_,y,_⟩=>(this.1 x).1 y,λ⟨_,y,_⟩=>(this.1 x).2 y⟩,λ⟨_,x,_⟩ ⟨_,y,_⟩=>this.2 x y⟩
 ·exact⟨λ_=>⟨λ⟨y,_⟩=>Cg y,λ⟨y,_⟩=>Cg y⟩,λ_ ⟨y,_⟩=>Cg y⟩
theorem Core.step(h:Core VV N w t Sh act ic n0 W0)(hi:i<N){V':View}{es:Array Uo}(s:dc (VV i) w V' w' es)
  (dQ:∀e∈es,∀x,(Tt e).touch?=some x->Sh x.loc->(x.kind=.atomic/\act i)\/(x.kind=.said/\i=ic/\act i)) (fn:TO) (pos:String):
  Core (upd VV i V') N w' (t++Ta i fn pos es) Sh act ic n0 W0 where
 sat j hj:=by
  by_cases cp:j=i
  ·subst cp;rw[bw];exact s.sat
  ·rw[a_ _ _ cp];exact s.others (h.sat i hi) (h.sat j hj) (h.dJ i j hi hj (Ne.symm cp))
 dJ a b ha hb fh:=by
  by_cases nv:a=i
  ·subst nv;have vN:b≠a:=Ne.symm fh;rw[bw,a_ _ _ vN];exact(s.vB (h.sat b hb) (h.dJ a b ha hb fh) (h.dJ b a hb ha vN)).1
  ·by_cases iE:b=i
   ·subst iE;rw[bw,a_ _ _ nv];exact(s.vB (h.sat a ha) (h.dJ b a hb ha (Ne.symm fh)) (h.dJ a b ha hb fh)).2
   ·rw[a_ _ _ nv,a_ _ _ iE];exact h.dJ a b ha hb fh
 ti:=by
  refine h.ti.app hi (λop au=>by obtain⟨e,_,rfl⟩:=TL au;rfl) (λop au x hx=> ?_) (λop au=>by obtain⟨e,he,rfl⟩:=TL au;exact s.low e he) s.size (λop au a=> ?_)
   (λj l hj ⟨x,y⟩=>by rw[a_ _ _ hj]at y;exact⟨x,y⟩) (λj l hj ⟨x,y⟩=>by rw[a_ _ _ hj]at y;exact⟨x,y⟩)
   (λl ⟨x,y,z⟩ hl=>by rw[bw]at y;exact .inl ⟨x,s.rd y hl,z⟩) (λl ⟨x,y,z⟩ hl=>by rw[bw]at y;exact⟨x,s.wr y hl,z⟩)
   (λl j hj=>h.PH l hi hj) (λl j hs=>⟨λx=>x.2.2 hs,λx=>x.2.2 hs⟩) (λj l x=>x.elim (λy=>gJ.low (h.sat j y.1) y.2.1) (λy=>gJ.low (h.sat j y.1) y.2.1.rd))
  ·obtain⟨e,he,rfl⟩:=TL au;by_cases hs:Sh x.loc
   ·rcases dQ e he x hx hs with⟨a,b⟩|⟨a,b,c⟩
    ·exact .inl ⟨hs,a,b⟩
    ·exact .inr (.inl ⟨hs,a,b,c⟩)
   ·refine .inr (.inr ⟨hs,?_⟩);rcases(IX (s.fg e he) hx).1 with x'|⟨x',y⟩|x'
    ·exact .inl ⟨hi,x',hs⟩
    ·exact .inr (.inl ⟨⟨hi,x',hs⟩,y⟩)
    ·exact .inr (.inr x')
  ·obtain⟨e,he,rfl⟩:=TL au;intro e';have hk:=s.fg e he;obtain⟨l,wr,sy⟩:=e;cases l with
   |mark m=>
    have e1:Tt ⟨.mark m,wr,sy⟩=.mark m:=(by cases wr<;>cases sy<;>rfl);simp only[e1,al_]at e';subst e';exact hk
   |cell a'=>simp[apH]at e'
   |obj r=>cases wr<;>cases sy<;>simp[Tt]at e'
   |_=>exact hk
 tape:=s.tape.trans h.tape
 os:=s.os.trans h.os
 out:=s.output.trans h.out
 old b hb:=(s.frame b (Te hb h.n0) (h.jh i hi b hb)).trans (h.old b hb)
 jh j hj b hb:=by
  by_cases cp:j=i
  ·subst cp;rw[bw];exact s.own b (Te hb h.n0) (h.jh j hj b hb)
  ·rw[a_ _ _ cp];exact h.jh j hj b hb
 n0:=UB h.n0 s.size
theorem Core.ghost(h:Core VV N w t Sh act ic n0 W0)(hi:i<N){V':View}(g:dW (VV i) V'):Core (upd VV i V') N w t Sh act ic n0 W0 where
 sat j hj:=by
  by_cases cp:j=i
  ·subst cp;rw[bw];exact g.sat _ (h.sat j hj)
  ·rw[a_ _ _ cp];exact h.sat j hj
 dJ a b ha hb fh:=by
  by_cases nv:a=i
  ·subst nv;have vN:b≠a:=Ne.symm fh;rw[bw,a_ _ _ vN];exact(g.vB (h.dJ a b ha hb fh) (h.dJ b a hb ha vN)).1
  ·by_cases iE:b=i
   ·subst iE;rw[bw,a_ _ _ nv];exact(g.vB (h.dJ b a hb ha (Ne.symm fh)) (h.dJ a b ha hb fh)).2
   ·rw[a_ _ _ nv,a_ _ _ iE];exact h.dJ a b ha hb fh
 ti:=h.ti.weaken (SR _) (λj l _ ⟨x,y,z⟩=>by
   by_cases cp:j=i
   ·subst cp;rw[bw]at y;exact .inl ⟨x,g.rd y,z⟩
   ·rw[a_ _ _ cp]at y;exact .inl ⟨x,y,z⟩) (λj l _ ⟨x,y,z⟩=>by
   by_cases cp:j=i
   ·subst cp;rw[bw]at y;exact⟨x,g.wr y,z⟩
   ·rw[a_ _ _ cp]at y;exact⟨x,y,z⟩) h.ti.sp
 tape:=h.tape
 os:=h.os
 out:=h.out
 old:=h.old
 jh j hj b hb:=by
  by_cases cp:j=i
  ·subst cp;rw[bw];exact g.own b (h.jh j hj b hb)
  ·rw[a_ _ _ cp];exact h.jh j hj b hb
 n0:=h.n0
def mC (V' V:View):Prop:=(∀b,V'.own b=none\/V'.own b=V.own b)/\(∀b o,V'.ab b o=none\/V'.ab b o=V.ab b o)/\(∀b,V'.own b≠none->∀o,V'.ab b o=V.ab b o)
theorem mC.sat{V V':View}(l:mC V' V){w:Tq}(h:Sat V w):Sat V' w:=
 ⟨λb o v e=>h.ab b o v (by rcases l.2.1 b o with x|x<;>rw[x]at e;cases e;exact e),λb x e=>h.own b x (by rcases l.1 b with y|y<;>rw[y]at e;cases e;exact e)⟩
theorem mC.rd{V V':View}(k:mC V' V):∀{l:Loc},gJ V' l->gJ V l
 |.cell a,h=>h.imp (λx y=>by rcases k.1 a.block with z|z;exact x z;exact x (z.trans y)) (λx y=>by rcases k.2.1 a.block a.off with z|z;exact x z;exact x (z.trans y))
 |.obj r,h=>λy=>by rcases k.1 r with z|z;exact h z;exact h (z.trans y)
theorem mC.wr{V V':View}(k:mC V' V):∀{l:Loc},jM V' l->jM V l
 |.cell a,h=>⟨λy=>by rcases k.1 a.block with z|z;exact h.1 z;exact h.1 (z.trans y),by rw[<- k.2.2 _ h.1];exact h.2⟩
 |.obj r,h=>λy=>by rcases k.1 r with z|z;exact h z;exact h (z.trans y)
theorem mC.vB{V V' U:View}(k:mC V' V)(d:jL V U)(d':jL U V):jL V' U/\jL U V':=by
 refine⟨λb hb=> ?_,λb hb=>⟨?_,λo ho=> ?_⟩⟩
 ·have x:V.own b≠none:=λy=>by rcases k.1 b with z|z;exact hb z;exact hb (z.trans y)
  exact⟨(d b x).1,λo ho=>by rw[k.2.2 b hb];exact(d b x).2 o ho⟩
 ·rcases k.1 b with z|z;exact z;exact z.trans (d' b hb).1
 ·exact(d' b hb).2 o λy=>by rcases k.2.1 b o with z|z;exact ho z;exact ho (z.trans y)
theorem Core.less(h:Core VV N w t Sh act ic n0 W0)(hi:i<N){V':View}(k:mC V' (VV i)):Core (upd VV i V') N w t Sh act ic n0 W0 where
 sat j hj:=by
  by_cases cp:j=i
  ·subst cp;rw[bw];exact k.sat (h.sat j hj)
  ·rw[a_ _ _ cp];exact h.sat j hj
 dJ a b ha hb fh:=by
  by_cases nv:a=i
  ·subst nv;have vN:b≠a:=Ne.symm fh;rw[bw,a_ _ _ vN];exact(k.vB (h.dJ a b ha hb fh) (h.dJ b a hb ha vN)).1
  ·by_cases iE:b=i
   ·subst iE;rw[bw,a_ _ _ nv];exact(k.vB (h.dJ b a hb ha (Ne.symm fh)) (h.dJ a b ha hb fh)).2
   ·rw[a_ _ _ nv,a_ _ _ iE];exact h.dJ a b ha hb fh
 ti:=h.ti.weaken (SR _) (λj l _ ⟨x,y,z⟩=>by
   by_cases cp:j=i
   ·subst cp;rw[bw]at y;exact .inl ⟨x,k.rd y,z⟩
   ·rw[a_ _ _ cp]at y;exact .inl ⟨x,y,z⟩) (λj l _ ⟨x,y,z⟩=>by
   by_cases cp:j=i
   ·subst cp;rw[bw]at y;exact⟨x,k.wr y,z⟩
   ·rw[a_ _ _ cp]at y;exact⟨x,y,z⟩) h.ti.sp
 tape:=h.tape
 os:=h.os
 out:=h.out
 old:=h.old
 jh j hj b hb:=by
  by_cases cp:j=i
  ·subst cp;rw[bw];rcases k.1 b with z|z;exact z;exact z.trans (h.jh j hj b hb)
  ·rw[a_ _ _ cp];exact h.jh j hj b hb
 n0:=h.n0
theorem Core.tC(h:Core VV N w t Sh act ic n0 W0)(hi:i<N){es:Array Uo}(cu:∀e∈es,∀x,(Tt e).touch?=some x->Fit w.heap.size (λi l=>i<N/\gJ (VV i) l/\¬Sh l) (λi l=>i<N/\jM (VV i) l/\¬Sh l) Sh act ic i x)
  (gZ:∀e∈es,(Tt e).low w.heap.size) (rn:∀e∈es,∀a,Tt e≠ .mark (.release a)) (SB:Nat->Prop) (K0:∀b,SB b->n0<=b/\∀j,j<N->(VV j).own b=none/\∀o,(VV j).ab b o=none)
  (aV:w'.heap.size=w.heap.size) (iX:∀b,¬SB b->w'.heap[b]?=w.heap[b]?) (ht:w'.tape=w.tape) (ho:w'.os=w.os) (hu:w'.output=w.output) (fn:TO) (pos:String):
  Core VV N w' (t++Ta i fn pos es) Sh act ic n0 W0 where
 sat j hj:=by
  have hs:=h.sat j hj;refine⟨λb o v e=> ?_,λb x e=> ?_⟩
  ·have hb:¬SB b:=λx=>(by rw[((K0 b x).2 j hj).2 o]at e;cases e);have:=hs.ab b o v e;simp only[Ux,iX b hb];exact this
  ·have hb:¬SB b:=λy=>(by rw[((K0 b y).2 j hj).1]at e;cases e);rw[iX b hb];exact hs.own b x e
 dJ:=h.dJ
 ti:=by
  rw[aV];refine h.ti.app hi (λop au=>by obtain⟨e,_,rfl⟩:=TL au;rfl) (λop au x hx=>by obtain⟨e,he,rfl⟩:=TL au;exact cu e he x hx) (λop au=>by obtain⟨e,he,rfl⟩:=TL au;exact gZ e he) (SR _) (λop au a=>by obtain⟨e,he,rfl⟩:=TL au;exact rn e he a)
   (λj l _ x=>x) (λj l _ x=>x) (λl x _=> .inl x) (λl x _=>x) (λl j hj=>h.PH l hi hj) (λl j hs=>⟨λx=>x.2.2 hs,λx=>x.2.2 hs⟩) (λj l x=>x.elim (λy=>gJ.low (h.sat j y.1) y.2.1) (λy=>gJ.low (h.sat j y.1) y.2.1.rd))
 tape:=ht.trans h.tape
 os:=ho.trans h.os
 out:=hu.trans h.out
 old b hb:=(iX b (λx=>by have:=(K0 b x).1;omega)).trans (h.old b hb)
 jh:=h.jh
 n0:=by rw[aV];exact h.n0
theorem Core.quiet(h:Core VV N w t Sh act ic n0 W0)(hi:i<N){es:Array Uo}(J_:∀e∈es,(Tt e).touch?=none/\(Tt e).low w.heap.size/\∀a,Tt e≠ .mark (.release a))(fn:TO)(pos:String):
  Core VV N w (t++Ta i fn pos es) Sh act ic n0 W0:=
 h.tC hi (λe he x hx=>by rw[(J_ e he).1]at hx;cases hx) (λe he=>(J_ e he).2.1) (λe he=>(J_ e he).2.2) (λ_=>False) (λb x=>x.elim) rfl (λ_ _=>rfl) rfl rfl rfl fn pos
theorem Core.role(h:Core VV N w t Sh act ic n0 W0)(hi:i<N){V':View}(h1:V'.ab=(VV i).ab)(h2:V'.own=(VV i).own):Core (upd VV i V') N w t Sh act ic n0 W0:=
 h.less hi ⟨λb=> .inr (by rw[h2]),λb o=> .inr (by rw[h1]),λb _ o=>by rw[h1]⟩
end
inductive GS where
 |gone (q:Nat)
 |work (j:Nat) (h:Ht) (V:View)
 |nQ (j:Nat) (h:Ht) (V V':View) (g0:SH) (v z:SP)
 |add (n:Nat)
 |load (n:Nat)
 |store (n:Nat)
 |mw (n:Nat)
 |head (k n:Nat)
 |l9 (v n:Nat)
 |said (n:Nat)
 |gX (n:Nat)
 |last (n:Nat)
 |acq (n:Nat)
 |look (n:Nat)
 |close (n:Nat)
def noView:View:={ab:=λ_ _=>none,own:=λ_=>none,deaf:=0,role:=.plain}
def GS.view (Im:cx):GS->View
 |.work _ _ V=>V
 |.nQ _ _ V _ _ _ _=>V
 |.head .. |.l9 .. |.said _|.gX _|.last _|.acq _|.look _=>{noView with ab:=Im}
 |_=>noView
def GS.cnt:GS->Nat
 |.work .. |.nQ .. |.add _=>1
 |_=>0
def GS.late:GS->Nat
 |.load _|.store _|.mw _=>1
 |_=>0
def GS.idx:GS->Option Nat
 |.work j _ _=>some j
 |.nQ j _ _ _ _ _ _=>some j
 |_=>none
def GS.shape:GS->GS
 |.gone _=> .gone 0
 |.work j _ _=> .work j .z noView
 |.nQ j _ _ _ _ _ _=> .work j .z noView
 |.add _=> .add 0
 |.load _=> .load 0
 |.store _=> .store 0
 |.mw _=> .mw 0
 |.head k _=> .head k 0
 |.l9 v _=> .l9 v 0
 |.said _=> .said 0
 |.gX _=> .gX 0
 |.last _=> .last 0
 |.acq _=> .acq 0
 |.look _=> .look 0
 |.close _=> .close 0
theorem GS.nh:∀K:GS,K.shape.cnt=K.cnt:=by intro K;cases K<;>rfl
theorem GS.mq:∀K:GS,K.shape.late=K.late:=by intro K;cases K<;>rfl
theorem GS.F7:∀K:GS,K.shape.idx=K.idx:=by intro K;cases K<;>rfl
def GS.ng:GS->Bool
 |.head .. |.l9 .. |.said _|.gX _|.last _|.acq _|.look _|.close _=>true
 |_=>false
theorem GS.OZ:∀K:GS,K.shape.ng=K.ng:=by intro K;cases K<;>rfl
def GS.c_:GS->yE
 |.gone q=>⟨0,.z,q⟩
 |.work _ h V=>⟨11+2* (match V.role with|.work _ _ S=>S.length|_=>0),h,0⟩
 |.nQ _ h V _ _ _ _=>⟨10+2* (match V.role with|.work _ _ S=>S.length|_=>0),h,0⟩
 |.add n=>⟨8,.z,n⟩
 |.load n=>⟨7,.z,n⟩
 |.store n=>⟨6,.z,n⟩
 |.mw n=>⟨5,.z,n⟩
 |.head k n=>⟨100+3* k,.z,n⟩
 |.l9 v n=>⟨102+3* v,.z,n⟩
 |.said n=>⟨60,.z,n⟩
 |.gX n=>⟨50,.z,n⟩
 |.last n=>⟨40,.z,n⟩
 |.acq n=>⟨30,.z,n⟩
 |.look n=>⟨20,.z,n⟩
 |.close n=>⟨15,.z,n⟩
section
variable (P:SJ)(c Wg:Nat)(Im:cx)(Ss:List (List Spec))
def DM (v d:Nat)(g:SH):Prop:=d=1/\g.status=.running/\
 (∃g',(∀w,WgAt P Wg w ((v:Int)* KK) 0->stepG P false g w=.go g' (w.setCell (dV Wg) (.int .u64 ((v:Int)* KK+1))) #[iT (dV Wg),k_ (dV Wg)])/\∃n,gU P Wg (DN P Im c Wg) n 1 g')/\
 (∀u:Nat,u<v->∃g',(∀w,WgAt P Wg w ((u:Int)* KK) 0->stepG P false g w=.go g' w #[iT (dV Wg)])/\∃n,cQ P (eM P Im c Wg v) n 1 g')
theorem eM.succ{k d:Nat}{g:SH}(h:eM P Im c Wg (k+1) d g):d=1/\g.status=.running/\∀v:Nat,v<=k->v<=4->∃g',(∀w,WgAt P Wg w ((v:Int)* KK) 0->stepG P false g w=.go g' w #[iT (dV Wg)])/\
  (v=0->∃n,gU P Wg (tK P Im c Wg) n 1 g')/\(v≠0->∃n,cQ P (DM P c Wg Im v) n 1 g'):=by
 rw[eM]at h;exact h
theorem eM.zero{d:Nat}{g:SH}(h:eM P Im c Wg 0 d g):False:=by
 rw[eM]at h;exact h
def GS.is:GS->Nat->SH->Prop
 |.gone q,d,g=>Y_ P q d g
 |.work j h V,d,g=>d=V.deaf/\lD P h V g/\∃S,Ss[j]?=some S/\V.role=.work c Wg S
 |.nQ j h V V' g0 v z,d,g=>d=0/\V.deaf=0/\g=parked g0 #[scase c v z] .send/\lD P h V' (T4 g0 undef)/\∃sp S,∃B:Nat->Bool,Ss[j]?=some (sp::S)/\V.role=.work c Wg (sp::S)/\
   sp v V.ab (λb=>if B b then V.own b else none)/\V'={V with own:=λb=>if B b then none else V.own b,role:=.work c Wg S}
 |.add n,d,g=>cQ P (AJ P Wg) n d g
 |.load n,d,g=>cQ P (DR P Wg) n d g
 |.store n,d,g=>cQ P (DU P Wg) n d g
 |.mw n,d,g=>cQ P (DT P Wg) n d g
 |.head k n,d,g=>cQ P (eM P Im c Wg k) n d g
 |.l9 v n,d,g=>cQ P (DM P c Wg Im v) n d g
 |.said n,d,g=>gU P Wg (DN P Im c Wg) n d g
 |.gX n,d,g=>cQ P (DO P Im c Wg) n d g\/(n=0/\∃g1,g={g1 with status:=.blocked}/\DO P Im c Wg d g1)
 |.last n,d,g=>cQ P (HH P Im c Wg) n d g
 |.acq n,d,g=>gU P Wg (tK P Im c Wg) n d g
 |.look n,d,g=>cQ P (HI P Im c) n d g
 |.close n,d,g=>cQ P (HG P c) n d g
end
theorem cQ.running{P:SJ}{Stop:Nat->SH->Prop}(hs:∀d g,Stop d g->g.status=.running):∀{n d:Nat}{g:SH},cQ P Stop n d g->g.status=.running
 |0,_,_,h=>hs _ _ h
 |_+1,_,_,h=>h.elim (hs _ _) (λx=>x.1)
theorem gU.running{P:SJ}{Wg:Nat}{Stop:Nat->SH->Prop}(hs:∀d g,Stop d g->g.status=.running):∀{n d:Nat}{g:SH},gU P Wg Stop n d g->g.status=.running
 |0,_,_,h=>hs _ _ h
 |_+1,_,_,h=>h.elim (hs _ _) (λx=>x.1)
theorem Rj{P:SJ}{Im:cx}{c Wg:Nat}:∀{k d:Nat}{g:SH},eM P Im c Wg k d g->g.status=.running
 |0,_,_,h=>(eM.zero P c Wg Im h).elim
 |_+1,_,_,h=>(eM.succ P c Wg Im h).2.1
theorem GS.runs{P:SJ}{c Wg:Nat}{Im:cx}{Ss:List (List Spec)}{K:GS}{d:Nat}{g:SH}(h:K.is P c Wg Im Ss d g):
  g.status=.running\/g.status=.finished/\(∃q,K=.gone q)\/(∃j h V V' g0 v z,K=.nQ j h V V' g0 v z)\/((∃n,K=.gX n)/\g.status=.blocked/\g.offers=none):=by
 cases K with
 |gone q=>exact(ZL h).elim .inl (λx=> .inr (.inl ⟨x,q,rfl⟩))
 |work j h' V=>exact .inl h.2.1.running
 |nQ j h' V V' g0 v z=>exact .inr (.inr (.inl ⟨j,h',V,V',g0,v,z,rfl⟩))
 |add n=>exact .inl (cQ.running (λd g x=>x.2.1) h)
 |load n=>exact .inl (cQ.running (λd g x=>x.2.1) h)
 |store n=>exact .inl (cQ.running (λd g x=>x.2.1) h)
 |mw n=>exact .inl (cQ.running (λd g x=>x.2.1) h)
 |head k n=>exact .inl (cQ.running (λd g x=>Rj x) h)
 |l9 v n=>exact .inl (cQ.running (λd g x=>x.2.1) h)
 |said n=>exact .inl (gU.running (λd g x=>x.2.1) h)
 |gX n=>
  rcases h with h|⟨_,g1,rfl,h⟩
  ·exact .inl (cQ.running (λd g x=>x.2.1) h)
  ·exact .inr (.inr (.inr ⟨⟨n,rfl⟩,rfl,h.2.2.1⟩))
 |last n=>exact .inl (cQ.running (λd g x=>x.2.1) h)
 |acq n=>exact .inl (gU.running (λd g x=>x.2.1) h)
 |look n=>exact .inl (cQ.running (λd g x=>x.2.1) h)
 |close n=>exact .inl (cQ.running (λd g x=>x.2.1) h)
structure Rel (Wg:Nat)(t:Uk)(i r:Nat):Prop where
 act:t.act? r=some (.mark (.releaseMerge (dV Wg)))
 g:t.g? r=some i
 heard:t.heard r
theorem Rel.app{Wg:Nat}{t u:Uk}{i r:Nat}(h:Rel Wg t i r):Rel Wg (t++u) i r:=
 have hr:=Wb h.act
 ⟨by rw[X0 hr];exact h.act,by rw[g?_old hr];exact h.g,(Ws hr).2 h.heard⟩
inductive eo where
 |early
 |got
 |shut (p:Nat)
 deriving DecidableEq
def wK (Wg:Nat)(t:Uk)(K:Nat->GS)(ic:Nat):eo->Nat->Prop
 |.early,idx=>∃i,t.g? idx=some i/\0<i/\(((K i).idx.isSome=true)\/(i=ic)\/∃r,Rel Wg t i r/\idx<=r)
 |.got,idx=>Wo t ic idx
 |.shut p,idx=>Before t idx p
def Rest (Wg:Nat)(t:Uk)(K:Nat->GS)(ic:Nat)(st:Option eo):Prop:=
 ∀idx a,touchAt t idx=some a->a.loc.isMemory=true->Wo t 0 idx\/(a.kind=.atomic/\¬t.heard idx)\/∃s,st=some s/\wK Wg t K ic s idx
def Mode (P:SJ)(c Wg N:Nat)(w:Tq)(gs:Array SH)(t:Uk)(K:Nat->GS)(ic:Nat)(s:eo):Prop:=
 let cn:Nat:=sumTo N λi=>(K i).cnt;let la:Nat:=sumTo N λi=>(K i).late;let opn:=∃n,w.heap[c]?=some (.chan 0 #[] false n n false)
 (opn/\s=.early/\la=0/\cn<=4/\WgAt P Wg w ((cn:Int)* KK) 0/\((∃k,(K ic).shape=.head k 0/\cn<k)\/(∃v,(K ic).shape=.l9 v 0/\cn<=v/\0<v)))\/
 (opn/\s=.early/\la=0/\1<=cn/\cn<=4/\WgAt P Wg w ((cn:Int)* KK+1) 0/\((K ic).shape=.said 0\/(K ic).shape=.gX 0))\/
 (opn/\s=.early/\la=1/\cn=0/\((K ic).shape=.said 0\/(K ic).shape=.gX 0)/\(∀i,i<N->((K i).shape=.load 0\/(K i).shape=.store 0)->WgAt P Wg w 1 0)/\(∀i,i<N->(K i).shape=.mw 0->WgAt P Wg w 0 0))\/
 (opn/\s=.early/\la=0/\cn=0/\WgAt P Wg w 0 1/\(∀g,gs[ic]?=some g->g.status=.running)/\((K ic).shape=.said 0\/(K ic).shape=.gX 0))\/
 (opn/\s=.early/\la=0/\cn=0/\WgAt P Wg w 0 0/\((K ic).shape=.last 0\/(K ic).shape=.acq 0))\/
 (opn/\s=.got/\la=0/\cn=0/\((K ic).shape=.look 0\/(K ic).shape=.close 0))\/
 ((∃p n,s=.shut p/\t.act? p=some (.close c)/\t.heard p/\w.heap[c]?=some (.chan 0 #[] true n n false))/\la=0/\cn=0/\(K ic).shape=.gone 0)
def kx (gs:Array SH)(g:SH):Prop:=∃g0,gs[0]?=some g0/\g0.status=.running/\g0.frame=g.frame/\g0.callers=g.callers/\g0.dying=g.dying
def nV (gs:Array SH)(g:SH)(c:Nat):Prop:=∃g0 z,gs[0]?=some (parked g0 #[rcase c z] (.recv true))/\g0.frame=g.frame/\g0.callers=g.callers/\g0.dying=g.dying
structure Phase where
 c:Nat
 Wg:Nat
 Ss:List (List Spec)
 recv:Bool
def bF (V:View)(Im:cx)(K:Nat->GS):Nat->View:=λi=>if i=0 then V else(K i).view Im
structure Inv (P:SJ)(n0:Nat)(W0:Tq)(V:View)(gs:Array SH)(w:Tq)(t:Uk)(K:Nat->GS)(Im:cx)(ic:Nat)(ph:Option Phase)(st:Option eo):Prop where
 pos:0<gs.size
 k0:K 0=.gone 0
 d0:UT t 0=V.deaf
 «is» : ∀ i g, 0 < i -> gs[i]? = some g -> match ph with
  |some p=>(K i).is P p.c p.Wg Im p.Ss (UT t i) g
  |none=>∃q,K i=.gone q/\Y_ P q (UT t i) g
 core:Core (bF V Im K) gs.size w t (match ph with|some p=>qG p.c p.Wg|none=>λ_=>False)
  (λi=>match ph with|some p=>if p.recv then 0<i/\i<gs.size/\((K i).idx.isSome=true\/i=ic\/(K i).cnt=1\/(K i).late=1)else i=0\/(i<gs.size/\(K i).idx.isSome=true)|none=>False) ic n0 W0
 rest:Rest (match ph with|some p=>p.Wg|none=>0) t K ic st
 phase:match ph with
  |none=>st=none
  |some p=>n0<=p.c/\n0<=p.Wg/\p.c≠p.Wg/\p.c<w.heap.size/\p.Wg<w.heap.size/\p.Ss.length<=4/\
   (∀i,0<i->((K i).view Im).own p.c=none/\(∀o,((K i).view Im).ab p.c o=none)/\((K i).view Im).own p.Wg=none/\(∀o,((K i).view Im).ab p.Wg o=none)/\((K i).ng=true->i=ic))/\
   (∀i i' j,0<i->i<gs.size->0<i'->i'<gs.size->(K i).idx=some j->(K i').idx=some j->i=i')/\
   (∀j S,p.Ss[j]?=some S->S≠[]->∃i,0<i/\i<gs.size/\(K i).idx=some j)/\
   (if p.recv then(V.own p.c=none/\(∀o,V.ab p.c o=none)/\V.own p.Wg=none/\(∀o,V.ab p.Wg o=none))/\0<ic/\ic<gs.size/\(∃s,st=some s/\Mode P p.c p.Wg gs.size w gs t K ic s)
    else V.own p.c=some (.chan 0 #[] false 0 0 false)/\ic=0/\st=some .early/\(∀i,0<i->i<gs.size->(K i).idx.isSome=true\/∃q,K i=.gone q)/\(∀S∈p.Ss,S≠[])/\(sumTo gs.size λi=>(K i).cnt)=p.Ss.length)
theorem Ax(K:Nat->GS)(k:GS)(φ:GS->Nat){i N:Nat}(hi:i<N):sumTo N (λa=>φ (upd K i k a))+φ (K i)=sumTo N (λa=>φ (K a))+φ k:=sumTo_upd K k φ hi
theorem lz(K:Nat->GS)(k:GS)(φ:GS->Nat){i N:Nat}(h:φ k=φ (K i)):sumTo N (λa=>φ (upd K i k a))=sumTo N (λa=>φ (K a)):=
 Vl λa _=>by by_cases ha:a=i;subst ha;rw[bw,h];rw[a_ _ _ ha]
theorem Core.Bc{VV:Nat->View}{N:Nat}{w:Tq}{t:Uk}{Sh:Loc->Prop}{act act':Nat->Prop}{ic n0:Nat}{W0:Tq}(h:Core VV N w t Sh act ic n0 W0)(ha:∀i,act' i->act i):Core VV N w t Sh act' ic n0 W0:=
 ⟨h.sat,h.dJ,h.ti.weaken (SR _) (λ_ _ _ x=> .inl x) (λ_ _ _ x=>x) (λidx a x y=>⟨λhp i hi=>(h.ti.sp idx a x y).1 hp i (ha i hi),(h.ti.sp idx a x y).2⟩),h.tape,h.os,h.out,h.old,h.jh,h.n0⟩
theorem Core.congr{VV D8:Nat->View}{N:Nat}{w:Tq}{t:Uk}{Sh:Loc->Prop}{act:Nat->Prop}{ic n0:Nat}{W0:Tq}(h:Core VV N w t Sh act ic n0 W0)(e:∀i,i<N->D8 i=VV i):Core D8 N w t Sh act ic n0 W0:=
 ⟨λi hi=>by rw[e i hi];exact h.sat i hi,λi j hi hj kg=>by rw[e i hi,e j hj];exact h.dJ i j hi hj kg,
  h.ti.weaken (SR _) (λi l hi ⟨x,y,z⟩=> .inl ⟨x,by rw[<- e i hi];exact y,z⟩) (λi l hi ⟨x,y,z⟩=>⟨x,by rw[<- e i hi];exact y,z⟩) h.ti.sp,h.tape,h.os,h.out,h.old,λi hi b hb=>by rw[e i hi];exact h.jh i hi b hb,h.n0⟩
theorem Nu(V:View)(Im:cx)(K:Nat->GS){i:Nat}(hi:0<i)(k:GS):bF V Im (upd K i k)=upd (bF V Im K) i (k.view Im):=by
 funext j;by_cases hj:j=i
 ·subst hj;rw[bw];simp[bF,bw];omega
 ·rw[a_ _ _ hj];simp[bF,a_ _ _ hj]
theorem aam{P:SJ}{c Wg:Nat}{Im:cx}{Ss:List (List Spec)}{k:GS}{d:Nat}{x g g':SH}{w':Tq}(ho:(∃n,w'.heap[c]?=some (.chan 0 #[] false n n false))\/k.idx=none) (h:k.is P c Wg Im Ss d x):
  k.is P c Wg Im Ss d (woken P g g' w' x):=by
 rcases GS.runs h with hr|⟨hf,q,rfl⟩|⟨j,h',V,V',g0,v,z,rfl⟩|⟨⟨n,rfl⟩,hb,hof⟩
 ·rw[Yk hr];exact h
 ·rw[woken_quitsD h];exact h
 ·rcases ho with⟨n,ho⟩|ho
  ·obtain⟨h1,h2,rfl,h4⟩:=h;rw[woken_send_open _ _ ho];exact⟨h1,h2,rfl,h4⟩
  ·cases ho
 ·rcases h with h|⟨hn,g1,rfl,h⟩
  ·rw[cQ.running (λd g x=>x.2.1) h]at hb;cases hb
  ·unfold woken;split
   ·subst hn;refine .inl ?_;have e:({g1 with status:=atP}:SH).again w'=g1:=by
     obtain⟨f,cs,s,dy,o⟩:=g1;have h2:=h.2.1;have h3:=h.2.2.1;simp only at h2 h3;subst h2 h3;rfl
    rw[e];exact h
   ·exact .inr ⟨hn,g1,rfl,h⟩
theorem Md{P:SJ}{gs:Array SH}{g:SH}{w':Tq}{i:Nat}{gi bD:SH}(hi:0<i)(h:kx gs g):kx ((gs.map (woken P gi bD w')).setIfInBounds i bD) g:=by
 obtain⟨g0,h0,h1,h2⟩:=h;exact⟨g0,by rw[SV (by omega),WG,h0];simp[Yk h1],h1,h2⟩
theorem Mv{P:SJ}{gs:Array SH}{g:SH}{w':Tq}{i c:Nat}{gi bD:SH}(hi:0<i)(h:nV gs g c)(ho:∃n,w'.heap[c]?=some (.chan 0 #[] false n n false)):nV ((gs.map (woken P gi bD w')).setIfInBounds i bD) g c:=by
 obtain⟨g0,z,h0,h2⟩:=h;obtain⟨n,ho⟩:=ho;exact⟨g0,z,by rw[SV (by omega),WG,h0];simp[woken_recv_open _ _ ho],h2⟩
theorem an1{P:SJ}{gs:Array SH}{g:SH}{w':Tq}{i c:Nat}{gi bD:SH}(hi:0<i)(h:nV gs g c)(hw:mayWake P gi=true)(hs:bD.status=.running\/bD.status=.finished)(ho:∃n,w'.heap[c]?=some (.chan 0 #[] true n n false)):
  kx ((gs.map (woken P gi bD w')).setIfInBounds i bD) g:=by
 obtain⟨g0,z,h0,h2⟩:=h;obtain⟨n,ho⟩:=ho;refine⟨{parked g0 #[rcase c z] (.recv true)with status:=.running},?_,rfl,h2⟩;rw[SV (by omega),WG,h0];have:woken P gi bD w' (parked g0 #[rcase c z] (.recv true))={parked g0 #[rcase c z] (.recv true)with status:=.running}:=by
  unfold woken;have hc:(mayWake P gi&&bD.status != .blocked&&bD.status != .waiting)=true:=by rcases hs with hs|hs<;>simp[hw,hs]
  rw[if_pos hc,again_recv_closed ho]
 simp[this]
def yC (w:Tq)(c:Nat):Prop:=∃n,w.heap[c]?=some (.chan 0 #[] false n n false)
def HS (gs gs':Array SH)(w w':Tq)(g:SH)(c:Nat):Prop:=(kx gs g->kx gs' g)/\(nV gs g c->yC w c->kx gs' g\/(nV gs' g c/\yC w' c))
def Calm (gs:Array SH):Prop:=∀i x,0<i->gs[i]?=some x->x.status=.blocked->x.offers=none
def flag (gs:Array SH)(ic:Nat):Nat:=if(gs[ic]?).any (·.status== .running)then 1 else 0
def iR (p:Phase)(N ic:Nat)(K:Nat->GS)(i:Nat):Prop:=if p.recv then 0<i/\i<N/\((K i).idx.isSome=true\/i=ic\/(K i).cnt=1\/(K i).late=1)else i=0\/(i<N/\(K i).idx.isSome=true)
section
variable {P:SJ}{n0:Nat}{W0:Tq}{V:View}{gs:Array SH}{w:Tq}{t:Uk}{K:Nat->GS}{Im:cx}{ic:Nat}{ph:Option Phase}{st:Option eo}
structure gz (P:SJ)(n0:Nat)(W0:Tq)(V:View)(gs:Array SH)(w:Tq)(sl:Option (Nat×Nat))(t:Uk)(K:Nat->GS)(Im:cx)(ic:Nat)(ph:Option Phase)(st:Option eo)(i:Nat):Prop where
 intro::
 atJ:∃gs' w' ops K' st',runT P (crowd gs w sl) i=(.next (crowd gs' w' sl),ops)/\gs'.size=gs.size/\Inv P n0 W0 V gs' w' (t++ops) K' Im ic ph st'/\(∀g c,(∀p,ph=some p->p.c=c)->HS gs gs' w w' g c)/\(∀g c,nV gs g c->Calm gs->Calm gs')/\
  AX gs.size ((λj=>(K' j).c_),flag gs' ic) ((λj=>(K j).c_),flag gs ic)
theorem getElem?_next{gi bD:SH}{w':Tq}{i j:Nat}{x:SH}(hlt:i<gs.size)(h:((gs.map (woken P gi bD w')).setIfInBounds i bD)[j]?=some x):(j=i/\x=bD)\/(j≠i/\∃y,gs[j]?=some y/\x=woken P gi bD w' y):=by
 by_cases cp:j=i
 ·subst cp;rw[S_ (by simpa using hlt)]at h;exact .inl ⟨rfl,(VX h).symm⟩
 ·rw[SV (Ne.symm cp),WG]at h;obtain⟨y,hy,rfl⟩:=Ts.1 h;exact .inr ⟨cp,y,hy,rfl⟩
theorem Rest.app{Wg:Nat}{t u:Uk}{K K':Nat->GS}{ic:Nat}{s s':eo}(h:Rest Wg t K ic (some s))(hold:∀idx a,touchAt t idx=some a->wK Wg t K ic s idx->Wo (t++u) 0 idx\/wK Wg (t++u) K' ic s' idx)
  (v7:∀idx a,t.size<=idx->(∃op∈u,(t++u)[idx]?=some op/\op.act.touch?=some a)->a.loc.isMemory=true->Wo (t++u) 0 idx\/(a.kind=.atomic/\¬(t++u).heard idx)\/wK Wg (t++u) K' ic s' idx):Rest Wg (t++u) K' ic (some s'):=by
 intro idx a ha hm;rcases Az ha with f_|⟨hi,hx⟩
 ·obtain⟨op,au,_⟩:=UV f_;rcases h idx a f_ hm with x|⟨x,y⟩|⟨s1,dL,x⟩
  ·exact .inl (x.app u)
  ·exact .inr (.inl ⟨x,λz=>y ((Ws (TG au)).1 z)⟩)
  ·cases dL;exact(hold idx a f_ x).imp id λy=> .inr ⟨s',rfl,y⟩
 ·exact(v7 idx a hi hx hm).imp id (λy=>y.imp id λz=>⟨s',rfl,z⟩)
theorem wK.app{Wg:Nat}{t u:Uk}{K K':Nat->GS}{ic idx:Nat}{s:eo}(cY:idx<t.size)(h:wK Wg t K ic s idx)(hK:∀i,t.g? idx=some i->0<i->(K i).idx.isSome=true->(K' i).idx.isSome=true\/∃r,Rel Wg (t++u) i r/\idx<=r):wK Wg (t++u) K' ic s idx:=by
 cases s with
 |early=>
  obtain⟨i,hg,h0,hx⟩:=h;refine⟨i,by rw[g?_old cY];exact hg,h0,?_⟩;rcases hx with x|x|⟨r,x,y⟩
  ·exact(hK i hg h0 x).imp id .inr
  ·exact .inr (.inl x)
  ·exact .inr (.inr ⟨r,x.app,y⟩)
 |got=>exact Knows.app u h
 |shut p=>exact Before.app u h
end
def rR (ph:Option Phase):Loc->Prop:=match ph with|some p=>qG p.c p.Wg|none=>λ_=>False
def nb (ph:Option Phase)(N ic:Nat)(K:Nat->GS):Nat->Prop:=λi=>match ph with|some p=>iR p N ic K i|none=>False
def AC (ph:Option Phase):Nat:=match ph with|some p=>p.Wg|none=>0
section
variable {P:SJ}{n0:Nat}{W0:Tq}{V:View}{gs:Array SH}{w w':Tq}{sl:Option (Nat×Nat)}{t:Uk}{K:Nat->GS}{Im:cx}{ic:Nat}{ph:Option Phase}{st st':Option eo}
def yD (P:SJ)(n0:Nat)(V:View)(gs:Array SH)(w:Tq)(t:Uk)(K:Nat->GS)(Im:cx)(ic:Nat)(ph:Option Phase)(st:Option eo):Prop:=match ph with
  |none=>st=none
  |some p=>n0<=p.c/\n0<=p.Wg/\p.c≠p.Wg/\p.c<w.heap.size/\p.Wg<w.heap.size/\p.Ss.length<=4/\
   (∀i,0<i->((K i).view Im).own p.c=none/\(∀o,((K i).view Im).ab p.c o=none)/\((K i).view Im).own p.Wg=none/\(∀o,((K i).view Im).ab p.Wg o=none)/\((K i).ng=true->i=ic))/\
   (∀i i' j,0<i->i<gs.size->0<i'->i'<gs.size->(K i).idx=some j->(K i').idx=some j->i=i')/\
   (∀j S,p.Ss[j]?=some S->S≠[]->∃i,0<i/\i<gs.size/\(K i).idx=some j)/\
   (if p.recv then(V.own p.c=none/\(∀o,V.ab p.c o=none)/\V.own p.Wg=none/\(∀o,V.ab p.Wg o=none))/\0<ic/\ic<gs.size/\(∃s,st=some s/\Mode P p.c p.Wg gs.size w gs t K ic s)
    else V.own p.c=some (.chan 0 #[] false 0 0 false)/\ic=0/\st=some .early/\(∀i,0<i->i<gs.size->(K i).idx.isSome=true\/∃q,K i=.gone q)/\(∀S∈p.Ss,S≠[])/\(sumTo gs.size λi=>(K i).cnt)=p.Ss.length)
def AM (P:SJ)(Im:cx)(ph:Option Phase)(k:GS)(d:Nat)(g:SH):Prop:=match ph with
  |some p=>k.is P p.c p.Wg Im p.Ss d g
  |none=>∃q,k=.gone q/\Y_ P q d g
theorem Inv.mk'(pos:0<gs.size)(k0:K 0=.gone 0)(d0:UT t 0=V.deaf)(dh:∀i g,0<i->gs[i]?=some g->AM P Im ph (K i) (UT t i) g)
  (hc:Core (bF V Im K) gs.size w t (rR ph) (nb ph gs.size ic K) ic n0 W0) (hr:Rest (AC ph) t K ic st) (hp:yD P n0 V gs w t K Im ic ph st):Inv P n0 W0 V gs w t K Im ic ph st:=by
 cases ph with
 |none=>exact⟨pos,k0,d0,dh,hc,hr,hp⟩
 |some p=>exact⟨pos,k0,d0,dh,hc,hr,hp⟩
theorem Inv.out(h:Inv P n0 W0 V gs w t K Im ic ph st):(∀i g,0<i->gs[i]?=some g->AM P Im ph (K i) (UT t i) g)/\Core (bF V Im K) gs.size w t (rR ph) (nb ph gs.size ic K) ic n0 W0/\Rest (AC ph) t K ic st/\yD P n0 V gs w t K Im ic ph st:=by
 cases ph with
 |none=>exact⟨h.is,h.core,h.rest,h.phase⟩
 |some p=>exact⟨h.is,h.core,h.rest,h.phase⟩
theorem af9{y:SH}(hy:y.status=.blocked->y.offers=none):(y.again w').status=.blocked->(y.again w').offers=none:=by
 obtain⟨f,cs,s,d,o⟩:=y;unfold Y0;cases s<;>cases o<;>simp_all
theorem aga{g g' y:SH}(hy:y.status=.blocked->y.offers=none)(hb:(woken P g g' w' y).status=.blocked):(woken P g g' w' y).offers=none:=by
 unfold woken at hb⊢;split
 ·rename_i hh;rw[if_pos hh]at hb;exact af9 hy hb
 ·rename_i hh;rw[if_neg hh]at hb;exact hy hb
theorem Inv.aa2(h:Inv P n0 W0 V gs w t K Im ic ph st){i:Nat}{gi bD:SH}{es:Array Uo}{k':GS}(hi:0<i)(aM:gs[i]?=some gi)(aQ:stepG P false gi w=.go bD w' es)
  (hk:AM P Im ph k' (deafBehind (UT t i) es) bD) (sN:bD.status=.blocked->bD.offers=none) (gE:∀p,ph=some p->(∃n,w'.heap[p.c]?=some (.chan 0 #[] false n n false))\/(∀j,0<j->j<gs.size->j≠i->(K j).idx=none))
  (xy:Core (bF V Im (upd K i k')) gs.size w' (t++Ta i gi.frame.fn gi.frame.place es) (rR ph) (nb ph gs.size ic (upd K i k')) ic n0 W0)
  (lL:Rest (AC ph) (t++Ta i gi.frame.fn gi.frame.place es) (upd K i k') ic st')
  (Ct:yD P n0 V ((gs.map (woken P gi bD w')).setIfInBounds i bD) w' (t++Ta i gi.frame.fn gi.frame.place es) (upd K i k') Im ic ph st')
  (jC:AX gs.size ((λj=>(upd K i k' j).c_),flag ((gs.map (woken P gi bD w')).setIfInBounds i bD) ic) ((λj=>(K j).c_),flag gs ic))
  (oY:∀g c,(∀p,ph=some p->p.c=c)->HS gs ((gs.map (woken P gi bD w')).setIfInBounds i bD) w w' g c):gz P n0 W0 V gs w sl t K Im ic ph st i:=by
 have hlt:i<gs.size:=(SU.1 aM).1;have eS:(i==0)=false:=by simp;omega
 have aV:((gs.map (woken P gi bD w')).setIfInBounds i bD).size=gs.size:=by simp
 have CB:∀op∈Ta i gi.frame.fn gi.frame.place es,op.g=i:=λop au=>by obtain⟨e,_,rfl⟩:=TL au;rfl
 refine⟨_,w',_,upd K i k',st',runT_crowd_go (P:=P) (sl:=sl) aM (by rw[eS];exact aQ),aV,?_,oY,?_,jC⟩
 rotate_left
 ·intro g c _ hc j x hj hx hb;rcases getElem?_next hlt hx with⟨_,rfl⟩|⟨_,y,hy,rfl⟩
  ·exact sN hb
  ·exact aga (hc j y hj hy) hb
 refine Inv.mk' (by rw[aV];exact h.pos) (by rw[a_ _ _ (by omega)];exact h.k0) ?_ (λj x hj hx=> ?_) (by rw[aV];exact xy) lL Ct
 ·rw[atS t (g:=0) (g':=i) (by omega) _ CB];exact h.d0
 ·rcases getElem?_next hlt hx with⟨rfl,rfl⟩|⟨cp,y,hy,rfl⟩
  ·rw[bw,Deaf_own];exact hk
  ·rw[a_ _ _ cp,atS t (g:=j) (g':=i) (Ne.symm cp) _ CB];have CK:=h.out.1 j y hj hy;have Ks:j<gs.size:=(SU.1 hy).1;cases ph with
   |none=>
    obtain⟨q,hq,o_⟩:=CK;exact⟨q,hq,by rw[woken_quitsD o_];exact o_⟩
   |some p=>
    refine aam ?_ CK;rcases gE p rfl with x|x
    ·exact .inl x
    ·exact .inr (x j hj Ks cp)
theorem Inv.next(h:Inv P n0 W0 V gs w t K Im ic ph st){i:Nat}{gi bD:SH}{es:Array Uo}{k':GS}(hi:0<i)(aM:gs[i]?=some gi)(aQ:stepG P false gi w=.go bD w' es)
  (hk:AM P Im ph k' (deafBehind (UT t i) es) bD) (sN:bD.status=.blocked->bD.offers=none) (gE:∀p,ph=some p->(∃n,w'.heap[p.c]?=some (.chan 0 #[] false n n false))\/(∀j,0<j->j<gs.size->j≠i->(K j).idx=none))
  (xy:Core (bF V Im (upd K i k')) gs.size w' (t++Ta i gi.frame.fn gi.frame.place es) (rR ph) (nb ph gs.size ic (upd K i k')) ic n0 W0)
  (lL:Rest (AC ph) (t++Ta i gi.frame.fn gi.frame.place es) (upd K i k') ic st')
  (Ct:yD P n0 V ((gs.map (woken P gi bD w')).setIfInBounds i bD) w' (t++Ta i gi.frame.fn gi.frame.place es) (upd K i k') Im ic ph st')
  (uv:qF k'.c_ (K i).c_)
  (oY:∀g c,(∀p,ph=some p->p.c=c)->HS gs ((gs.map (woken P gi bD w')).setIfInBounds i bD) w w' g c):gz P n0 W0 V gs w sl t K Im ic ph st i:=
 h.aa2 hi aM aQ hk sN gE xy lL Ct (.inl ⟨i,(SU.1 aM).1,by simpa only[bw]using uv,λj hj=>by show (upd K i k' j).c_=(K j).c_;rw[a_ _ _ hj]⟩) oY
theorem ane{B:Nat}{e:Uo}(h:e.mute=true):(Tt e).touch?=none/\(Tt e).low B/\∀a,Tt e≠ .mark (.release a):=by
 refine⟨Z0 h,low_mute h B,λa=> ?_⟩;obtain⟨l,wr,sy⟩:=e;cases l with
 |mark m=>cases m<;>cases wr<;>cases sy<;>simp_all[Tt,WI]
 |_=>simp[WI]at h
theorem Mode.keep{c Wg N:Nat}{gs':Array SH}{u:Uk}{K':Nat->GS}{s:eo}(h:Mode P c Wg N w gs t K ic s)(hs:∀j,(K' j).shape=(K j).shape)(hc:w'.heap[c]?=w.heap[c]?)(hW:w'.heap[Wg]?=w.heap[Wg]?)
  (hr:(∀g,gs[ic]?=some g->g.status=.running)->∀g,gs'[ic]?=some g->g.status=.running):Mode P c Wg N w' gs' (t++u) K' ic s:=by
 have e1:sumTo N (λi=>(K' i).cnt)=sumTo N λi=>(K i).cnt:=Vl λi _=>by rw[<- GS.nh,hs i,GS.nh]
 have e2:sumTo N (λi=>(K' i).late)=sumTo N λi=>(K i).late:=Vl λi _=>by rw[<- GS.mq,hs i,GS.mq]
 have e3:∀st sm,WgAt P Wg w' st sm=WgAt P Wg w st sm:=λst sm=>by unfold WgAt;rw[hW]
 unfold Mode at h⊢;simp only[e1,e2,e3,hs,hc];rcases h with h|h|h|h|h|h|h
 ·exact .inl h
 ·exact .inr (.inl h)
 ·exact .inr (.inr (.inl h))
 ·exact .inr (.inr (.inr (.inl ⟨h.1,h.2.1,h.2.2.1,h.2.2.2.1,h.2.2.2.2.1,hr h.2.2.2.2.2.1,h.2.2.2.2.2.2⟩)))
 ·exact .inr (.inr (.inr (.inr (.inl h))))
 ·exact .inr (.inr (.inr (.inr (.inr (.inl h)))))
 ·obtain⟨⟨p,n,a,b,c',d⟩,e⟩:=h;exact .inr (.inr (.inr (.inr (.inr (.inr ⟨⟨p,n,a,by rw[X0 (Wb b)];exact b,(Ws (Wb b)).2 c',d⟩,e⟩)))))
theorem abX{i:Nat}{gi bD:SH}(hlt:i<gs.size)(hg:bD.status=.running)(h:∀g,gs[ic]?=some g->g.status=.running):∀g,((gs.map (woken P gi bD w')).setIfInBounds i bD)[ic]?=some g->g.status=.running:=by
 intro g zu;rcases getElem?_next hlt zu with⟨_,rfl⟩|⟨_,y,hy,rfl⟩
 ·exact hg
 ·rw[Yk (h y hy)];exact h y hy
theorem GS.aah{k:GS}(h:k.cnt=0):k.idx=none:=by
 cases k<;>first|rfl|(simp[GS.cnt]at h)
theorem Inv.opens(h:Inv P n0 W0 V gs w t K Im ic ph st){p:Phase}(hp:ph=some p):(∃n,w.heap[p.c]?=some (.chan 0 #[] false n n false))\/((∀j,0<j->j<gs.size->(K j).idx=none)/\(∃n,w.heap[p.c]?=some (.chan 0 #[] true n n false))/\p.recv=true):=by
 subst hp;obtain⟨_,hc,_,gF⟩:=h.out;obtain⟨_,_,_,_,_,_,_,_,_,hx⟩:=gF;by_cases hr:p.recv=true
 ·rw[if_pos hr]at hx;obtain⟨_,_,_,s,_,hm⟩:=hx;rcases hm with h|h|h|h|h|h|h
  ·exact .inl h.1
  ·exact .inl h.1
  ·exact .inl h.1
  ·exact .inl h.1
  ·exact .inl h.1
  ·exact .inl h.1
  ·obtain⟨⟨_,n,_,_,_,hn⟩,_,gM,_⟩:=h;refine .inr ⟨λj hj io=> ?_,⟨n,hn⟩,hr⟩;have hle:(K j).cnt<=sumTo gs.size λi=>(K i).cnt:=WF (f:=λi=>(K i).cnt) io;exact GS.aah (by omega)
 ·rw[if_neg hr]at hx;have:=(hc.sat 0 h.pos).own p.c _ (by simp only[bF,if_true];exact hx.1);exact .inl ⟨0,this⟩
theorem Inv.slip(h:Inv P n0 W0 V gs w t K Im ic ph st){i:Nat}{gi bD:SH}{es:Array Uo}{k':GS}(hi:0<i)(aM:gs[i]?=some gi)(aQ:stepG P false gi w=.go bD w es)(jC:∀e∈es,e.mute=true)
  (hk:AM P Im ph k' (deafBehind (UT t i) es) bD) (sN:bD.status=.blocked->bD.offers=none) (dQ:k'.shape=(K i).shape) (mj:k'.view Im=(K i).view Im) (bK:(K i).shape=.gX 0\/(K i).shape=.said 0->bD.status=.running) (uv:qF k'.c_ (K i).c_):gz P n0 W0 V gs w sl t K Im ic ph st i:=by
 have hlt:i<gs.size:=(SU.1 aM).1;obtain⟨_,hc,hr,hp⟩:=h.out;have cY:∀j,((upd K i k') j).idx=(K j).idx:=λj=>by
  by_cases hj:j=i
  ·subst hj;rw[bw,<- GS.F7,dQ,GS.F7]
  ·rw[a_ _ _ hj]
 have lM:∀j,((upd K i k') j).shape=(K j).shape:=λj=>by
  by_cases hj:j=i
  ·subst hj;rw[bw,dQ]
  ·rw[a_ _ _ hj]
 have aad:∀j,((upd K i k') j).view Im=(K j).view Im:=λj=>by
  by_cases hj:j=i
  ·subst hj;rw[bw,mj]
  ·rw[a_ _ _ hj]
 have oQ:∀j,((upd K i k') j).cnt=(K j).cnt:=λj=>by rw[<- GS.nh,lM,GS.nh]
 have v4:∀j,((upd K i k') j).late=(K j).late:=λj=>by rw[<- GS.mq,lM,GS.mq]
 refine h.next (st':=st) hi aM aQ hk sN (λp zG=>(h.opens zG).imp id λx j a b _=>x.1 j a b) ?_ ?_ ?_ uv ?_
 ·refine((hc.quiet hlt (λe he=>ane (jC e he)) gi.frame.fn gi.frame.place).congr λj hj=> ?_).Bc λj hj=> ?_
  ·simp only[bF,aad]
  ·cases ph with
   |none=>exact hj
   |some p=>simpa only[nb,iR,cY,oQ,v4]using hj
 ·cases st with
  |none=>
   intro idx a ha hm;have f_:=AA (λop au=>by obtain⟨e,he,rfl⟩:=TL au;exact Z0 (jC e he)) ha;obtain⟨op,au,_⟩:=UV f_;rcases hr idx a f_ hm with x|⟨x,y⟩|⟨_,z,_⟩
   ·exact .inl (x.app _)
   ·exact .inr (.inl ⟨x,λz=>y ((Ws (TG au)).1 z)⟩)
   ·cases z
  |some s=>
   refine hr.app (λidx a ha hx=> .inr (hx.app (by obtain⟨op,au,_⟩:=UV ha;exact TG au) λj _ _ hj=> .inl (by rw[cY];exact hj))) (λidx a _ ⟨op,au,_,hx⟩ _=> ?_);obtain⟨e,he,rfl⟩:=TL au;rw[Z0 (jC e he)]at hx;cases hx
 ·cases ph with
  |none=>exact hp
  |some p=>
   obtain⟨a1,a2,a3,a4,a5,a6,a7,a8,a9,bT⟩:=hp;refine⟨a1,a2,a3,a4,a5,a6,λj hj=>by rw[aad,<- GS.OZ,lM,GS.OZ];exact a7 j hj,λj j' m b1 b2 b3 b4 b5 b6=>a8 j j' m b1 (by simpa using b2) b3 (by simpa using b4) (by rw[<- cY];exact b5) (by rw[<- cY];exact b6),λj S b1 b2=> ?_,?_⟩
   ·obtain⟨m,c1,c2,c3⟩:=a9 j S b1 b2;exact⟨m,c1,by simpa using c2,by rw[cY];exact c3⟩
   ·split
    ·rename_i aH;rw[if_pos aH]at bT;obtain⟨c1,c2,c3,s,c4,c5⟩:=bT;refine⟨c1,c2,by simpa using c3,s,c4,?_⟩;have aV:((gs.map (woken P gi bD w)).setIfInBounds i bD).size=gs.size:=(by simp);rw[aV];by_cases fL:i=ic/\bD.status≠ .running
     ·
      obtain⟨rfl,rn⟩:=fL;unfold Mode at c5⊢;have e1:sumTo gs.size (λj=>((upd K i k') j).cnt)=sumTo gs.size λj=>(K j).cnt:=Vl λj _=>oQ j;have e2:sumTo gs.size (λj=>((upd K i k') j).late)=sumTo gs.size λj=>(K j).late:=Vl λj _=>v4 j;simp only[e1,e2,lM];rcases c5 with h|h|h|h|h|h|h
      ·exact .inl h
      ·exact .inr (.inl h)
      ·exact .inr (.inr (.inl h))
      ·exact absurd (bK h.2.2.2.2.2.2.symm) rn
      ·exact .inr (.inr (.inr (.inr (.inl h))))
      ·exact .inr (.inr (.inr (.inr (.inr (.inl h)))))
      ·obtain⟨⟨p,n,a,b,c',d⟩,e⟩:=h;exact .inr (.inr (.inr (.inr (.inr (.inr ⟨⟨p,n,a,by rw[X0 (Wb b)];exact b,(Ws (Wb b)).2 c',d⟩,e⟩)))))
     ·refine c5.keep lM rfl rfl λrz g hg=> ?_;rcases getElem?_next hlt hg with⟨rfl,rfl⟩|⟨_,y,hy,rfl⟩
      ·exact Tl λx=>fL ⟨rfl,x⟩
      ·rw[Yk (rz y hy)];exact rz y hy
    ·rename_i aH;rw[if_neg aH]at bT;refine⟨bT.1,bT.2.1,bT.2.2.1,λj b1 b2=> ?_,bT.2.2.2.2.1,?_⟩
     rotate_left
     ·rw[show ((gs.map (woken P gi bD w)).setIfInBounds i bD).size=gs.size by simp,Vl λj _=>oQ j];exact bT.2.2.2.2.2
     rcases bT.2.2.2.1 j b1 (by simpa using b2)with x|⟨q,x⟩
     ·exact .inl (by rw[cY];exact x)
     ·by_cases hj:j=i
      ·subst hj;rw[bw];rw[x]at dQ;cases k'<;>simp[GS.shape]at dQ;exact .inr ⟨_,rfl⟩
      ·rw[a_ _ _ hj];exact .inr ⟨q,x⟩
 ·intro g c _;exact⟨Md hi,λjb ho=> .inr ⟨Mv hi jb ho,ho⟩⟩
end
section
variable {P:SJ}{n0:Nat}{W0:Tq}{V:View}{gs:Array SH}{w w':Tq}{sl:Option (Nat×Nat)}{t:Uk}{K:Nat->GS}{Im:cx}{ic:Nat}{p:Phase}{st st':Option eo}
def jl (p:Phase)(U:View):Prop:=U.own p.c=none/\(∀o,U.ab p.c o=none)/\U.own p.Wg=none/\(∀o,U.ab p.Wg o=none)
theorem jl.step{U U':View}{es:Array Uo}(b:jl p U)(s:dc U w U' w' es)(hc:p.c<w.heap.size)(hW:p.Wg<w.heap.size):jl p U':=by
 have key:∀b,b<w.heap.size->U.own b=none->(∀o,U.ab b o=none)->U'.own b=none/\∀o,U'.ab b o=none:=by
  intro b hb ho hi;refine⟨s.own b hb ho,λo=> ?_⟩;cases e:U'.ab b o with
  |none=>rfl
  |some v=>
   rcases s.kI b o v e with x|x|x
   ·rw[hi o]at x;cases x
   ·exact absurd ho x
   ·omega
 have k1:=key p.c hc b.1 b.2.1;have k2:=key p.Wg hW b.2.2.1 b.2.2.2;exact⟨k1.1,k1.2,k2.1,k2.2⟩
theorem jl.Aa{U:View}(b:jl p U){l:Loc}(h:gJ U l):¬qG p.c p.Wg l:=by
 intro hs;cases l with
 |cell a=>
  have e:a.block=p.Wg:=hs;rcases h with h|h
  ·exact h (by rw[e];exact b.2.2.1)
  ·exact h (by rw[e];exact b.2.2.2 _)
 |obj r=>have e:r=p.c:=hs;exact h (by rw[e];exact b.1)
 |_=>exact hs
theorem jl.ghost{U U':View}(b:jl p U)(g:dW U U'):jl p U':=by
 have key:∀b,U.own b=none->(∀o,U.ab b o=none)->U'.own b=none/\∀o,U'.ab b o=none:=by
  intro b ho hi;refine⟨g.own b ho,λo=> ?_⟩;cases e:U'.ab b o with
  |none=>rfl
  |some v=>
   rcases g.kI b o v e with x|x
   ·rw[hi o]at x;cases x
   ·exact absurd ho x
 have k1:=key p.c b.1 b.2.1;have k2:=key p.Wg b.2.2.1 b.2.2.2;exact⟨k1.1,k1.2,k2.1,k2.2⟩
theorem afQ:jl p noView:=⟨rfl,λ_=>rfl,rfl,λ_=>rfl⟩
theorem Inv.blind(h:Inv P n0 W0 V gs w t K Im ic (some p) st){i:Nat}(hi:0<i):jl p ((K i).view Im):=let x:=h.phase.2.2.2.2.2.2.1 i hi;⟨x.1,x.2.1,x.2.2.1,x.2.2.2.1⟩
theorem Inv.rT(h:Inv P n0 W0 V gs w t K Im ic (some p) st){i:Nat}(hi:0<i)(hc:(K i).ng=true):i=ic:=(h.phase.2.2.2.2.2.2.1 i hi).2.2.2.2 hc
theorem Inv.low(h:Inv P n0 W0 V gs w t K Im ic (some p) st):p.c<w.heap.size/\p.Wg<w.heap.size:=⟨h.phase.2.2.2.1,h.phase.2.2.2.2.1⟩
theorem acn(hc:p.c<w.heap.size)(hW:p.Wg<w.heap.size){l:Loc}(h:qG p.c p.Wg l):l.low w.heap.size:=by
 cases l with
 |cell a=>show a.block<_;rw[show a.block=p.Wg from h];exact hW
 |obj r=>show r<_;rw[show r=p.c from h];exact hc
 |_=>exact h.elim
theorem Inv.agq(h:Inv P n0 W0 V gs w t K Im ic (some p) st)(hr:p.recv=true){i:Nat}(hlt:i<gs.size)(hk:(K i).cnt=1):∃s,WgAt P p.Wg w s 0:=by
 obtain⟨_,_,_,_,_,_,_,_,_,hx⟩:=h.phase;rw[if_pos hr]at hx;obtain⟨_,_,_,s,hs,hm⟩:=hx;have hle:(K i).cnt<=sumTo gs.size λi=>(K i).cnt:=WF (f:=λi=>(K i).cnt) hlt;rcases hm with h|h|h|h|h|h|h
 ·exact⟨_,h.2.2.2.2.1⟩
 ·exact⟨_,h.2.2.2.2.2.1⟩
 ·have:=h.2.2.2.1;omega
 ·have:=h.2.2.2.1;omega
 ·have:=h.2.2.2.1;omega
 ·have:=h.2.2.2.1;omega
 ·have:=h.2.2.1;omega
theorem Inv.N5(h:Inv P n0 W0 V gs w t K Im ic (some p) st)(hr:p.recv=true){n:Nat}(hk:K ic=.acq n\/K ic=.said n):∃x y,WgAt P p.Wg w x y:=by
 obtain⟨_,_,_,_,_,_,_,_,_,hx⟩:=h.phase;rw[if_pos hr]at hx;obtain⟨_,_,_,s,hs,hm⟩:=hx;unfold Mode at hm;rcases hm with h|h|h|h|h|h|h
 ·exact⟨_,_,h.2.2.2.2.1⟩
 ·exact⟨_,_,h.2.2.2.2.2.1⟩
 ·have key:∀N,0<(sumTo N λi=>(K i).late)->∃i,i<N/\(K i).late≠0:=by
   intro N;induction N with
   |zero=>intro h;exact absurd h (by simp[sumTo])
   |succ N ih=>
    intro h;by_cases h0:(K N).late=0
    ·simp only[sumTo,h0]at h;obtain⟨i,hi,hl⟩:=ih (by omega);exact⟨i,by omega,hl⟩
    ·exact⟨N,by omega,h0⟩
  have:=key gs.size (by have:=h.2.2.1;omega);obtain⟨i,hi,hl⟩:=this;cases lc:K i<;>rw[lc]at hl<;>first
   |exact⟨_,_,h.2.2.2.2.2.1 i hi (by rw[lc];exact .inl rfl)⟩
   |exact⟨_,_,h.2.2.2.2.2.1 i hi (by rw[lc];exact .inr rfl)⟩
   |exact⟨_,_,h.2.2.2.2.2.2 i hi (by rw[lc];rfl)⟩
   |exact absurd rfl hl
 ·exact⟨_,_,h.2.2.2.2.1⟩
 ·exact⟨_,_,h.2.2.2.2.1⟩
 ·exfalso;rcases hk with hk|hk<;>rw[hk]at h<;>rcases h.2.2.2.2 with h|h<;>cases h
 ·exfalso;rcases hk with hk|hk<;>rw[hk]at h<;>cases h.2.2.2
theorem Inv.counted(h:Inv P n0 W0 V gs w t K Im ic (some p) st){i:Nat}(_hi:0<i)(hlt:i<gs.size)(hk:(K i).cnt=1):(∃n,w.heap[p.c]?=some (.chan 0 #[] false n n false))/\st=some .early:=by
 have gF:=h.phase;obtain⟨_,_,_,_,_,_,_,_,_,hx⟩:=gF;by_cases hr:p.recv=true
 ·rw[if_pos hr]at hx;obtain⟨_,_,_,s,hs,hm⟩:=hx;have hle:(K i).cnt<=sumTo gs.size λi=>(K i).cnt:=WF (f:=λi=>(K i).cnt) hlt;rcases hm with h|h|h|h|h|h|h
  ·exact⟨h.1,by rw[hs,h.2.1]⟩
  ·exact⟨h.1,by rw[hs,h.2.1]⟩
  ·exact⟨h.1,by rw[hs,h.2.1]⟩
  ·exact⟨h.1,by rw[hs,h.2.1]⟩
  ·exact⟨h.1,by rw[hs,h.2.1]⟩
  ·have:=h.2.2.2.1;omega
  ·have:=h.2.2.1;omega
 ·rw[if_neg hr]at hx;have:=(h.core.sat 0 h.pos).own p.c _ (by simp only[bF,if_true];exact hx.1);exact⟨⟨0,this⟩,hx.2.2.1⟩
theorem Inv.Mx(h:Inv P n0 W0 V gs w t K Im ic (some p) st){i:Nat}{k':GS}{gs':Array SH}{t':Uk}(aV:gs'.size=gs.size)(gg:w.heap.size<=w'.heap.size)(hb:jl p (k'.view Im))(xw:k'.ng=true->i=ic)
  (cY:k'.idx=(K i).idx\/(k'.idx=none/\∀j,(K i).idx=some j->p.Ss[j]?=some []))
  (ee:if p.recv then∃s,st'=some s/\Mode P p.c p.Wg gs.size w' gs' t' (upd K i k') ic s
    else st'=some .early/\k'.idx.isSome=true/\k'.cnt=(K i).cnt):yD P n0 V gs' w' t' (upd K i k') Im ic (some p) st':=by
 obtain⟨a1,a2,a3,a4,a5,a6,a7,a8,a9,bT⟩:=h.phase;have pX:∀j m,((upd K i k') j).idx=some m->(K j).idx=some m:=by
  intro j m hj;by_cases cp:j=i
  ·subst cp;rw[bw]at hj;rcases cY with x|⟨x,_⟩
   ·rw[<- x];exact hj
   ·rw[x]at hj;cases hj
  ·rw[a_ _ _ cp]at hj;exact hj
 refine⟨a1,a2,a3,Te a4 gg,Te a5 gg,a6,λj hj=> ?_,λj j' m b1 b2 b3 b4 b5 b6=>a8 j j' m b1 (aV▸b2) b3 (aV▸b4) (pX _ _ b5) (pX _ _ b6),λj S b1 b2=> ?_,?_⟩
 ·by_cases cp:j=i
  ·subst cp;rw[bw];exact⟨hb.1,hb.2.1,hb.2.2.1,hb.2.2.2,xw⟩
  ·rw[a_ _ _ cp];exact a7 j hj
 ·obtain⟨m,c1,c2,c3⟩:=a9 j S b1 b2;refine⟨m,c1,by rw[aV];exact c2,?_⟩;by_cases cU:m=i
  ·subst cU;rw[bw];rcases cY with x|⟨_,x⟩
   ·rw[x];exact c3
   ·have:=x j c3;rw[this]at b1;cases b1;exact absurd rfl b2
  ·rw[a_ _ _ cU];exact c3
 ·split
  ·rename_i aH;rw[if_pos aH]at bT ee;obtain⟨c1,c2,c3,_⟩:=bT;exact⟨c1,c2,by rw[aV];exact c3,by rw[aV];exact ee⟩
  ·rename_i aH;rw[if_neg aH]at bT ee;obtain⟨c1,c2,_,c4,c5⟩:=bT;refine⟨c1,c2,ee.1,λj b1 b2=> ?_,c5.1,by rw[aV,lz K k' GS.cnt ee.2.2];exact c5.2⟩;by_cases cp:j=i
   ·subst cp;rw[bw];exact .inl ee.2.1
   ·rw[a_ _ _ cp];exact c4 j b1 (aV▸b2)
theorem Inv.adv(h:Inv P n0 W0 V gs w t K Im ic (some p) st){i j:Nat}{gi bD:SH}{es:Array Uo}{hh h':Ht}{Vi V':View}(hi:0<i)(aM:gs[i]?=some gi)(hK:K i=.work j hh Vi)(aQ:stepG P false gi w=.go bD w' es)
  (s:dc Vi w V' w' es) (hk:lD P h' V' bD) (mf:AL h' hh):gz P n0 W0 V gs w sl t K Im ic (some p) st i:=by
 have hlt:i<gs.size:=(SU.1 aM).1;have dh:=h.is i gi hi aM;simp only[hK,GS.is]at dh;obtain⟨hd,_,S,hS,jc⟩:=dh;have gM:(K i).cnt=1:=by rw[hK];rfl
 obtain⟨⟨n,gE⟩,lq⟩:=h.counted hi hlt gM;have gZ:=h.low;have cL:jl p Vi:=by have:=h.blind hi;rw[hK]at this;exact this
 have ajB:=cL.step s gZ.1 gZ.2;have mj:bF V Im K i=Vi:=by simp[bF,hK,GS.view];omega
 have eX:w'.heap[p.c]?=w.heap[p.c]?:=s.frame p.c gZ.1 cL.1;have hWh:w'.heap[p.Wg]?=w.heap[p.Wg]?:=s.frame p.Wg gZ.2 cL.2.2.1;have lM:∀m,((upd K i (.work j h' V')) m).shape=(K m).shape:=λm=>by
  by_cases hm:m=i
  ·subst hm;rw[bw,hK];rfl
  ·rw[a_ _ _ hm]
 have cY:∀m,((upd K i (.work j h' V')) m).idx=(K m).idx:=λm=>by rw[<- GS.F7,lM,GS.F7]
 have oQ:∀m,((upd K i (.work j h' V')) m).cnt=(K m).cnt:=λm=>by rw[<- GS.nh,lM,GS.nh]
 have v4:∀m,((upd K i (.work j h' V')) m).late=(K m).late:=λm=>by rw[<- GS.mq,lM,GS.mq]
 have ce:V'.role=Vi.role:=s.role;refine h.next (k':=.work j h' V') (st':=st) hi aM aQ ⟨by rw[hd,s.deaf],hk,S,hS,ce.trans jc⟩ (λx=>by rw[hk.running]at x;cases x) (λq hq=>by cases hq;exact .inl ⟨n,by rw[eX];exact gE⟩) ?_ ?_ ?_ ?_ ?_
 ·rw[Nu V Im K hi];refine(Core.step (V':=V') h.core hlt (by rw[mj];exact s) (λe he x hx hs=> ?_) gi.frame.fn gi.frame.place).Bc λm hm=> ?_
  ·exfalso;rcases(IX (s.fg e he) hx).1 with y|⟨y,_⟩|y
   ·exact cL.Aa y.rd hs
   ·exact cL.Aa y hs
   ·exact y (acn gZ.1 gZ.2 hs)
  ·simpa only[nb,iR,cY,oQ,v4]using hm
 ·rw[lq];have hr:Rest (AC (some p)) t K ic st:=h.out.2.2.1;rw[lq]at hr;refine hr.app (λidx a ha hx=> .inr (hx.app (by obtain⟨op,au,_⟩:=UV ha;exact TG au) λm _ _ hm=> .inl (by rw[cY];exact hm))) (λidx a _ ⟨op,au,xB,_⟩ _=> .inr (.inr ⟨i,?_,hi,.inl ?_⟩))
  ·obtain⟨e,_,rfl⟩:=TL au;simp[WC,xB]
  ·rw[bw];rfl
 ·refine h.Mx (by simp) s.size ajB (λx=>by cases x) (.inl (by rw[hK];rfl)) ?_;have hx:=h.phase.2.2.2.2.2.2.2.2.2;split
  ·rename_i aH;rw[if_pos aH]at hx;obtain⟨_,_,_,s',nG,hm⟩:=hx;exact⟨s',nG,hm.keep lM eX hWh λrz=>abX hlt hk.running rz⟩
  ·exact⟨lq,rfl,by rw[hK];rfl⟩
 ·rw[hK];refine .inr ⟨by simp[GS.c_,ce],.inl mf⟩
 ·intro g c JY;have ho:yC w' c:=⟨n,by rw[<- JY p rfl,eX];exact gE⟩;exact⟨Md hi,λjb _=> .inr ⟨Mv hi jb ho,ho⟩⟩
end
def nK (V:View)(I':cx)(O':AZ)(r:m8):View:=
 {V with ab:=λb o=>match V.ab b o with|some x=>some x|none=>I' b o,own:=λb=>match V.own b with|some x=>some x|none=>O' b,role:=r}
def lU (B:Nat->Bool)(U:View):AZ:=λb=>if B b then U.own b else none
def lR (B:Nat->Bool)(U:View)(r:m8):View:={U with own:=λb=>if B b then none else U.own b,role:=r}
section
variable {P:SJ}{n0:Nat}{W0:Tq}{V:View}{gs gs':Array SH}{w w':Tq}{sl:Option (Nat×Nat)}{t:Uk}{K:Nat->GS}{Im:cx}{ic:Nat}{p:Phase}{st:Option eo}
theorem abo{k:GS}{d:Nat}{x:SH}(h:k.is P p.c p.Wg Im p.Ss d x)(r:Nat):offersAt x r false=[]:=by
 rcases GS.runs h with hr|⟨hf,_⟩|⟨j,h',V,V',g0,v,z,rfl⟩|⟨_,hb,ho⟩
 ·exact UW (by rw[hr];simp) r false
 ·exact UW (by rw[hf];simp) r false
 ·obtain⟨_,_,rfl,_⟩:=h;exact offersAt_parked_send' _ _ _ _ _ _
 ·unfold offersAt;simp[hb,ho]
theorem amX{g:SH}(h:kx gs g){x:SH}(hx:gs[0]?=some x)(r:Nat)(s:Bool):offersAt x r s=[]:=by
 obtain⟨g0,h0,h1,_⟩:=h;rw[h0]at hx;cases hx;exact UW (by rw[h1];simp) r s
theorem Inv.ar0(h:Inv P n0 W0 V gs w t K Im ic (some p) st){g:SH}(hm:kx gs g){i j:Nat}{gi:SH}{hh h':Ht}{Vi V₁:View}{sp:Spec}{S:List Spec}{v z:SP}{B:Nat->Bool}(hi:0<i)(aM:gs[i]?=some gi)
  (hK:K i=.work j hh Vi) (hg:dW Vi V₁) (hr:V₁.role=.work p.c p.Wg (sp::S)) (hd:V₁.deaf=0) (aQ:stepG P false gi w=.comm gi #[scase p.c v z] true .send w #[])
  (xO:sp v V₁.ab (lU B V₁)) (hk:lD P h' (lR B V₁ (.work p.c p.Wg S)) (T4 gi undef)):gz P n0 W0 V gs w sl t K Im ic (some p) st i:=by
 have hlt:i<gs.size:=(SU.1 aM).1;have dh:=h.is i gi hi aM;simp only[hK,GS.is]at dh;obtain⟨bx,_,S',hS,jc⟩:=dh;have gM:(K i).cnt=1:=by rw[hK];rfl
 obtain⟨⟨n,gE⟩,lq⟩:=h.counted hi hlt gM;have eS:(i==0)=false:=by simp;omega
 have er:m8.work p.c p.Wg S'=.work p.c p.Wg (sp::S):=by rw[<- jc,<- hg.role,hr]
 cases er;let k':GS:=.nQ j h' V₁ (lR B V₁ (.work p.c p.Wg S)) gi v z;have hw:=crowd_waits (P:=P) (sl:=sl) (i:=i) aM (by rw[eS];exact aQ) (λcc iV=>by
  simp only[TJ,SL,S4,or_false]at iV;subst iV;refine ways_send_none gE (by simp) (partners_nil λm x hx=> ?_);rcases X7 gs i m x hx with⟨_,rfl⟩|⟨_,jE⟩
  ·exact Zr _ _
  ·rcases UZ m with rfl|iI
   ·exact amX hm jE _ _
   ·exact abo (h.is m x iI jE) _)
 have mj:bF V Im K i=Vi:=by simp[bF,hK,GS.view];omega
 have cL:jl p Vi:=by have:=h.blind hi;rw[hK]at this;exact this
 have cY:∀m,((upd K i k') m).idx=(K m).idx:=λm=>by
  by_cases hm:m=i
  ·subst hm;rw[bw,hK];rfl
  ·rw[a_ _ _ hm]
 have lM:∀m,((upd K i k') m).shape=(K m).shape:=λm=>by
  by_cases hm:m=i
  ·subst hm;rw[bw,hK];rfl
  ·rw[a_ _ _ hm]
 have oQ:∀m,((upd K i k') m).cnt=(K m).cnt:=λm=>by rw[<- GS.nh,lM,GS.nh]
 have v4:∀m,((upd K i k') m).late=(K m).late:=λm=>by rw[<- GS.mq,lM,GS.mq]
 have e0:t++Ta i gi.frame.fn gi.frame.place #[]=t:=by simp[Ta]
 have aV:(gs.setIfInBounds i (parked gi #[scase p.c v z] .send)).size=gs.size:=by simp
 refine⟨_,w,_,upd K i k',st,hw,aV,?_,λg' c _=>⟨λ⟨g0,a,b⟩=>⟨g0,by rw[SV (by omega)];exact a,b⟩,λ⟨g0,z',a,b⟩ ho=> .inr ⟨⟨g0,z',by rw[SV (by omega)];exact a,b⟩,ho⟩⟩,λg' c ⟨g1,z',a,_⟩ _=>(by obtain⟨g0,h0,h1,_⟩:=hm;rw[a]at h0;cases h0;cases h1),
  .inl ⟨i,hlt,?_,λm hm=>by show (upd K i k' m).c_=(K m).c_;rw[a_ _ _ hm]⟩⟩
 ·rw[e0];refine Inv.mk' (by rw[aV];exact h.pos) (by rw[a_ _ _ (by omega)];exact h.k0) h.d0 (λm x hm hx=> ?_) ?_ ?_ ?_
  ·by_cases cU:m=i
   ·subst cU;rw[S_ hlt]at hx;cases hx;rw[bw];exact⟨by rw[bx,<- hg.deaf,hd],hd,rfl,hk,sp,S,B,hS,hr,xO,rfl⟩
   ·rw[SV (Ne.symm cU)]at hx;rw[a_ _ _ cU];exact h.is m x hm hx
  ·rw[aV,Nu V Im K hi];exact(Core.ghost (V':=V₁) h.core hlt (by rw[mj];exact hg)).Bc λm hm=>by simpa only[nb,iR,cY,oQ,v4]using hm
  ·have hr:Rest (AC (some p)) t K ic st:=h.out.2.2.1;rw[lq]at hr⊢;have:=hr.app (u:=#[]) (K':=upd K i k') (s':=.early) (λidx a ha hx=> .inr (hx.app (by obtain⟨op,au,_⟩:=UV ha;exact TG au) λm _ _ hm=> .inl (by rw[cY];exact hm))) (λidx a _ ⟨op,au,_⟩ _=>by simp at au);simpa using this
  ·refine h.Mx aV (SR _) (cL.ghost hg) (λx=>by cases x) (.inl (by rw[hK];rfl)) ?_;have hx:=h.phase.2.2.2.2.2.2.2.2.2;split
   ·rename_i aH;rw[if_pos aH]at hx;obtain⟨_,gh,_,s',nG,fN⟩:=hx;refine⟨s',nG,?_⟩;have:=fN.keep (w':=w) (gs':=gs.setIfInBounds i (parked gi #[scase p.c v z] .send)) (u:=#[]) lM rfl rfl λrz x hx=>by
     by_cases fL:ic=i
     ·subst fL;exfalso;unfold Mode at fN;have aE:∀s:GS,(K ic).shape=s->s=.work j .z noView:=λs e=>(by rw[<- e,hK];rfl);rcases fN with h|h|h|h|h|h|h
      ·rcases h.2.2.2.2.2 with⟨_,e,_⟩|⟨_,e,_⟩<;>cases aE _ e
      ·rcases h.2.2.2.2.2.2 with e|e<;>cases aE _ e
      ·rcases h.2.2.2.2.1 with e|e<;>cases aE _ e
      ·rcases h.2.2.2.2.2.2 with e|e<;>cases aE _ e
      ·rcases h.2.2.2.2.2 with e|e<;>cases aE _ e
      ·rcases h.2.2.2.2 with e|e<;>cases aE _ e
      ·cases aE _ h.2.2.2
     ·rw[SV (Ne.symm fL)]at hx;exact rz x hx
    simpa using this
   ·exact⟨lq,rfl,by rw[hK];rfl⟩
 ·show qF (upd K i k' i).c_ (K i).c_;rw[hK];refine .inl ?_;simp only[bw,k',GS.c_,hr,jc];omega
theorem Mode.alW{c Wg N:Nat}{u:Uk}{K':Nat->GS}{s:eo}(h:Mode P c Wg N w gs t K ic s)(gM:1<=sumTo N λi=>(K i).cnt)(hs:∀j,(K' j).shape=(K j).shape)(ho:∃n,w'.heap[c]?=some (.chan 0 #[] false n n false)) (hW:w'.heap[Wg]?=w.heap[Wg]?):Mode P c Wg N w' gs' (t++u) K' ic s:=by
 have e1:sumTo N (λi=>(K' i).cnt)=sumTo N λi=>(K i).cnt:=Vl λi _=>by rw[<- GS.nh,hs i,GS.nh]
 have e2:sumTo N (λi=>(K' i).late)=sumTo N λi=>(K i).late:=Vl λi _=>by rw[<- GS.mq,hs i,GS.mq]
 have e3:∀st sm,WgAt P Wg w' st sm=WgAt P Wg w st sm:=λst sm=>by unfold WgAt;rw[hW]
 unfold Mode at h⊢;simp only[e1,e2,e3,hs];rcases h with h|h|h|h|h|h|h
 ·exact .inl ⟨ho,h.2⟩
 ·exact .inr (.inl ⟨ho,h.2⟩)
 ·have:=h.2.2.2.1;omega
 ·have:=h.2.2.2.1;omega
 ·have:=h.2.2.2.1;omega
 ·have:=h.2.2.2.1;omega
 ·have:=h.2.2.1;omega
theorem Inv.met(h:Inv P n0 W0 V gs w t K Im ic (some p) st)(aH:p.recv=true)(iD:V.deaf=0){i j:Nat}{h':Ht}{V₁:View}{gi:SH}{sp:Spec}{S:List Spec}{B:Nat->Bool}(hi:0<i)(hlt:i<gs.size)
  (xC:(K i).idx=some j) (hg:dW ((K i).view Im) V₁) (hr:V₁.role=.work p.c p.Wg (sp::S)) (hd:V₁.deaf=0) (oi:UT t i=0) (hS:p.Ss[j]?=some (sp::S))
  (hk:lD P h' (lR B V₁ (.work p.c p.Wg S)) (T4 gi undef)) (aV:gs'.size=gs.size) (aM:gs'[i]?=some (T4 gi undef)) (hgo:∀m,m≠i->0<m->gs'[m]?=gs[m]?)
  {u:Uk} {x0 x1 x2 x3:Wd} (hu:u=#[x0,x1,x2,x3]) {s:Nat} (h0:x0.g=i/\x0.act=.send p.c s) (h1:x1.g=0/\x1.act=.recv p.c s 0) (h2:x2.g=i/\x2.act=.sendDone p.c s) (h3:x3.g=0/\x3.act=.recvDone p.c s)
  (bN:w'.heap.size=w.heap.size) (g_:∀b,b≠p.c->w'.heap[b]?=w.heap[b]?) (v_:∃n,w'.heap[p.c]?=some (.chan 0 #[] false n n false)) (F0:w'.tape=w.tape) (hw5:w'.os=w.os) (hw6:w'.output=w.output):
  (∀b,V.own b≠none->lU B V₁ b=none)/\(∀b o,V.own b≠none->V₁.ab b o≠none->V.ab b o≠none)/\
  Inv P n0 W0 (nK V V₁.ab (lU B V₁) (.recv p.c p.Wg (p.Ss.set j S))) gs' w' (t++u) (upd K i (.work j h' (lR B V₁ (.work p.c p.Wg S)))) Im ic (some {p with Ss:=p.Ss.set j S}) st:=by
 obtain⟨dh,hc,lL,gF⟩:=h.out;obtain⟨a1,a2,a3,a4,a5,a6,a7,a8,a9,bT⟩:=gF;rw[if_pos aH]at bT;obtain⟨⟨c1,c2,c3,c4⟩,c5,c6,s',c7,c8⟩:=bT;have B3:jl p V:=⟨c1,c2,c3,c4⟩;have vL:=(h.blind hi).ghost hg;have mj:bF V Im K i=(K i).view Im:=by simp[bF];omega
 have cV:bF V Im K 0=V:=by simp[bF]
 have dl:Core (upd (bF V Im K) i V₁) gs.size w t (rR (some p)) (nb (some p) gs.size ic K) ic n0 W0:=hc.ghost hlt (by rw[mj];exact hg);have dL:Sat V₁ w:=by have:=dl.sat i hlt;rwa [bw]at this
 have dK:Sat V w:=by have:=dl.sat 0 h.pos;rwa [a_ _ _ (by omega),cV]at this
 have Es:jL V V₁:=by have:=dl.dJ 0 i h.pos hlt (by omega);rwa [a_ _ _ (show 0≠i by omega),bw,cV]at this
 have Pl:jL V₁ V:=by have:=dl.dJ i 0 hlt h.pos (by omega);rwa [bw,a_ _ _ (show 0≠i by omega),cV]at this
 have aj3:∀b,V.own b≠none->lU B V₁ b=none:=λb hb=>by
  unfold lU;split
  ·exact(Es b hb).1
  ·rfl
 refine⟨aj3,λb o hb=>(Es b hb).2 o,?_⟩;have jC:∀op∈u,op.act.touch?=none/\still op.act/\(op.g=0\/op.g=i)/\op.act.low w.heap.size/\∀a,op.act≠ .mark (.release a):=by
  intro op au;rw[hu]at au;simp only[TJ,SL,S4,or_false]at au;rcases au with rfl|rfl|rfl|rfl
  ·rw[h0.2,h0.1];exact⟨rfl,⟨by simp,by simp⟩,.inr rfl,a4,by simp⟩
  ·rw[h1.2,h1.1];exact⟨rfl,⟨by simp,by simp⟩,.inl rfl,a4,by simp⟩
  ·rw[h2.2,h2.1];exact⟨rfl,⟨by simp,by simp⟩,.inr rfl,a4,by simp⟩
  ·rw[h3.2,h3.1];exact⟨rfl,⟨by simp,by simp⟩,.inl rfl,a4,by simp⟩
 have nH:∀op∈u,still op.act:=λop au=>(jC op au).2.1;have ul:∀m,UT (t++u) m=UT t m:=λm=>Deaf_still nH;have d00:UT t 0=0:=by rw[h.d0,iD]
 have bY:∀idx,Wo t i idx->Wo (t++u) 0 idx:=λidx hx=>am4 hu h0 (jC x1 (by rw[hu];simp)).2.1 (jC x2 (by rw[hu];simp)).2.1 h3 oi d00 hx;let k':GS:=.work j h' (lR B V₁ (.work p.c p.Wg S));let V':View:=nK V V₁.ab (lU B V₁) (.recv p.c p.Wg (p.Ss.set j S));have cY:∀m,((upd K i k') m).idx=(K m).idx:=λm=>by
  by_cases hm:m=i
  ·subst hm;rw[bw,xC];rfl
  ·rw[a_ _ _ hm]
 have dQ:(K i).shape=.work j .z noView:=by
  cases lc:K i<;>rw[lc]at xC<;>simp[GS.idx]at xC
  ·subst xC;rfl
  ·subst xC;rfl
 have lM:∀m,((upd K i k') m).shape=(K m).shape:=λm=>by
  by_cases hm:m=i
  ·subst hm;rw[bw,dQ];rfl
  ·rw[a_ _ _ hm]
 have oQ:∀m,((upd K i k') m).cnt=(K m).cnt:=λm=>by rw[<- GS.nh,lM,GS.nh]
 have v4:∀m,((upd K i k') m).late=(K m).late:=λm=>by rw[<- GS.mq,lM,GS.mq]
 have gM:(K i).cnt=1:=by rw[<- GS.nh,dQ];rfl
 have lq:=(h.counted hi hlt gM).2;have rX:bF V' Im (upd K i k') 0=V':=by simp[bF]
 have wF:bF V' Im (upd K i k') i=lR B V₁ (.work p.c p.Wg S):=by simp[bF,bw,k',GS.view];omega
 have wG:∀m,m≠0->m≠i->bF V' Im (upd K i k') m=upd (bF V Im K) i V₁ m:=λm h1 h2=>by simp[bF,a_ _ _ h2,h1]
 have C_:upd (bF V Im K) i V₁ 0=V:=by rw[a_ _ _ (by omega),cV]
 have wn:upd (bF V Im K) i V₁ i=V₁:=bw _ _ _;have kB:∀{U:View},jl p U->Sat U w->Sat U w':=λ{U} hb hs=>⟨λb o v e=>by
   have aE:b≠p.c:=λx=>(by rw[x,hb.2.1 o]at e;cases e);have:=hs.ab b o v e;simp only[Ux,g_ b aE]at this⊢;exact this,λb x e=>by
   have aE:b≠p.c:=λy=>(by rw[y,hb.1]at e;cases e);rw[g_ b aE];exact hs.own b x e⟩
 have alg:Sat V' w:=⟨λb o v e=>by
   simp only[V',nK]at e;split at e
   ·rename_i x hx;cases e;exact dK.ab b o _ hx
   ·exact dL.ab b o v e,λb x e=>by
   simp only[V',nK]at e;split at e
   ·rename_i y hy;cases e;exact dK.own b _ hy
   ·unfold lU at e;split at e
    ·exact dL.own b x e
    ·cases e⟩
 have B4:jl p V':=⟨by simp[V',nK,c1,lU,vL.1],λo=>by simp[V',nK,c2,vL.2.1],by simp[V',nK,c3,lU,vL.2.2.1],λo=>by simp[V',nK,c4,vL.2.2.2]⟩;have hsK:Sat (lR B V₁ (.work p.c p.Wg S)) w:=⟨dL.ab,λb x e=>by
   simp only[lR]at e;split at e
   ·cases e
   ·exact dL.own b x e⟩
 have B1:jl p (lR B V₁ (.work p.c p.Wg S)):=⟨by simp[lR,vL.1],vL.2.1,by simp[lR,vL.2.2.1],vL.2.2.2⟩;have Ag:∀b,V'.own b≠none->V.own b≠none\/(B b=true/\V₁.own b≠none):=λb hb=>by
  simp only[V',nK]at hb;split at hb
  ·rename_i y hy;exact .inl (by rw[hy];simp)
  ·unfold lU at hb;split at hb
   ·rename_i hB;exact .inr ⟨hB,hb⟩
   ·exact absurd rfl hb
 have uD:∀b o,V'.ab b o≠none<->(V.ab b o≠none\/V₁.ab b o≠none):=λb o=>by
  simp only[V',nK];cases e:V.ab b o with
  |some x=>simp
  |none=>simp
 have Ah:∀b,(lR B V₁ (.work p.c p.Wg S)).own b≠none->B b=false/\V₁.own b≠none:=λb hb=>by
  simp only[lR]at hb;split at hb
  ·exact absurd rfl hb
  ·rename_i hB;exact⟨by simpa using hB,hb⟩
 have xy:Core (bF V' Im (upd K i k')) gs.size w' (t++u) (rR (some p)) (nb (some p) gs.size ic K) ic n0 W0:=by
  refine⟨λm hm=> ?_,λa b ha hb fh=> ?_,?_,F0.trans hc.tape,hw5.trans hc.os,hw6.trans hc.out,λb hb=>(g_ b (by omega)).trans (hc.old b hb),λm hm b hb=> ?_,by rw[bN];exact hc.n0⟩
  ·by_cases iI:m=0
   ·subst iI;rw[rX];exact kB B4 alg
   ·by_cases cU:m=i
    ·subst cU;rw[wF];exact kB B1 hsK
    ·rw[wG m iI cU,a_ _ _ cU];have:=hc.sat m hm;refine kB ?_ this;have e:bF V Im K m=(K m).view Im:=(by simp[bF,iI]);rw[e];exact h.blind (by omega)
  ·
   have dm:∀m,m<gs.size->m≠0->m≠i->jL (upd (bF V Im K) i V₁ m) V/\jL V (upd (bF V Im K) i V₁ m)/\jL (upd (bF V Im K) i V₁ m) V₁/\jL V₁ (upd (bF V Im K) i V₁ m):=λm hm h1 h2=>
    ⟨by have:=dl.dJ m 0 hm h.pos h1;rwa [C_]at this,by have:=dl.dJ 0 m h.pos hm (Ne.symm h1);rwa [C_]at this,by have:=dl.dJ m i hm hlt h2;rwa [wn]at this,by have:=dl.dJ i m hlt hm (Ne.symm h2);rwa [wn]at this⟩
   by_cases zg:a=0
   ·subst zg;by_cases iE:b=i
    ·subst iE;rw[rX,wF];intro q hq;rcases Ag q hq with x|⟨hB,x⟩
     ·refine⟨?_,λo ho=>(uD q o).2 (.inl ((Es q x).2 o ho))⟩;simp only[lR];split
      ·rfl
      ·exact(Es q x).1
     ·refine⟨by simp only[lR,hB,if_true],λo ho=>(uD q o).2 (.inr ho)⟩
    ·have sM:b≠0:=Ne.symm fh;rw[rX,wG b sM iE];obtain⟨_,e2,_,e4⟩:=dm b hb sM iE;intro q hq;rcases Ag q hq with x|⟨_,x⟩
     ·exact⟨(e2 q x).1,λo ho=>(uD q o).2 (.inl ((e2 q x).2 o ho))⟩
     ·exact⟨(e4 q x).1,λo ho=>(uD q o).2 (.inr ((e4 q x).2 o ho))⟩
   ·by_cases nv:a=i
    ·subst nv;by_cases sM:b=0
     ·subst sM;rw[rX,wF];intro q hq;obtain⟨hB,x⟩:=Ah q hq;refine⟨?_,λo ho=> ?_⟩
      ·simp only[V',nK,(Pl q x).1,lU,hB];rfl
      ·rcases(uD q o).1 ho with y|y
       ·exact(Pl q x).2 o y
       ·exact y
     ·rw[wF,wG b sM (Ne.symm fh)];obtain⟨_,_,_,e4⟩:=dm b hb sM (Ne.symm fh);intro q hq;exact e4 q (Ah q hq).2
    ·rw[wG a zg nv];obtain⟨e1,e2,e3,e4⟩:=dm a ha zg nv;by_cases sM:b=0
     ·subst sM;rw[rX];intro q hq;refine⟨?_,λo ho=>((uD q o).1 ho).elim ((e1 q hq).2 o) ((e3 q hq).2 o)⟩;simp only[V',nK,(e1 q hq).1,lU,(e3 q hq).1,ite_self]
     ·by_cases iE:b=i
      ·subst iE;rw[wF];intro q hq;refine⟨?_,(e3 q hq).2⟩;simp only[lR,(e3 q hq).1,ite_self]
      ·rw[wG b sM iE];exact dl.dJ a b ha hb fh
  ·rw[bN];refine dl.ti.mute (λop au=>(jC op au).1) (λop au=>(jC op au).2.2.2.1) (λop au=>((jC op au).2.2.1).elim (λx=>by rw[x];exact h.pos) (λx=>by rw[x];exact hlt)) (SR _) (λop au=>(jC op au).2.2.2.2) (λm hm l hl idx a ha gD rF=> ?_) (λm hm l hl idx a ha gD=> ?_) (λidx a ha dQ=>⟨λhp m hm=>((dl.ti.sp idx a ha dQ).1 hp m hm).app u,λhp=>((dl.ti.sp idx a ha dQ).2 hp).app u⟩)
   ·obtain⟨_,cN,me⟩:=hl;by_cases iI:m=0
    ·subst iI;rw[rX]at cN;have:gJ V l\/gJ V₁ l:=by
      cases l with
      |cell a'=>
       rcases cN with x|x
       ·exact(Ag _ x).imp .inl (λy=> .inl y.2)
       ·exact((uD _ _).1 x).imp .inr .inr
      |obj r=>exact(Ag _ cN).imp id (λy=>y.2)
      |_=>exact cN.elim
     rcases this with x|x
     ·exact(dl.ti.kr 0 h.pos l ⟨h.pos,by rw[C_];exact x,me⟩ idx a ha gD rF).app u
     ·exact bY idx (dl.ti.kr i hlt l ⟨hlt,by rw[wn];exact x,me⟩ idx a ha gD rF)
    ·by_cases cU:m=i
     ·subst cU;rw[wF]at cN;have:gJ V₁ l:=by
       cases l with
       |cell a'=>exact cN.imp (λx=>(Ah _ x).2) id
       |obj r=>exact(Ah _ cN).2
       |_=>exact cN.elim
      exact(dl.ti.kr m hm l ⟨hm,by rw[wn];exact this,me⟩ idx a ha gD rF).app u
     ·rw[wG m iI cU]at cN;exact(dl.ti.kr m hm l ⟨hm,cN,me⟩ idx a ha gD rF).app u
   ·obtain⟨_,cN,me⟩:=hl;by_cases iI:m=0
    ·subst iI;rw[rX]at cN;have:jM V l\/jM V₁ l:=by
      cases l with
      |cell a'=>
       have fK:V.ab a'.block a'.off=none:=by
        cases e:V.ab a'.block a'.off with
        |none=>rfl
        |some x=>exact absurd cN.2 ((uD _ _).2 (.inl (by rw[e];simp)))
       have un:V₁.ab a'.block a'.off=none:=by
        cases e:V₁.ab a'.block a'.off with
        |none=>rfl
        |some x=>exact absurd cN.2 ((uD _ _).2 (.inr (by rw[e];simp)))
       exact(Ag _ cN.1).imp (λx=>⟨x,fK⟩) (λx=>⟨x.2,un⟩)
      |obj r=>exact(Ag _ cN).imp id (λy=>y.2)
      |_=>exact cN.elim
     rcases this with x|x
     ·exact(dl.ti.kw 0 h.pos l ⟨h.pos,by rw[C_];exact x,me⟩ idx a ha gD).app u
     ·exact bY idx (dl.ti.kw i hlt l ⟨hlt,by rw[wn];exact x,me⟩ idx a ha gD)
    ·by_cases cU:m=i
     ·subst cU;rw[wF]at cN;have:jM V₁ l:=by
       cases l with
       |cell a'=>exact⟨(Ah _ cN.1).2,cN.2⟩
       |obj r=>exact(Ah _ cN).2
       |_=>exact cN.elim
      exact(dl.ti.kw m hm l ⟨hm,by rw[wn];exact this,me⟩ idx a ha gD).app u
     ·rw[wG m iI cU]at cN;exact(dl.ti.kw m hm l ⟨hm,cN,me⟩ idx a ha gD).app u
  ·by_cases iI:m=0
   ·subst iI;rw[rX];have e1:=dl.jh 0 h.pos b hb;have e2:=dl.jh i hlt b hb;rw[C_]at e1;rw[wn]at e2;simp[V',nK,e1,lU,e2]
   ·by_cases cU:m=i
    ·subst cU;rw[wF];have e2:=dl.jh m hm b hb;rw[wn]at e2;simp[lR,e2]
    ·rw[wG m iI cU];exact dl.jh m hm b hb
 refine Inv.mk' (by rw[aV];exact h.pos) (by rw[a_ _ _ (by omega)];exact h.k0) (by rw[ul];exact h.d0) (λm x hm hx=> ?_) ?_ ?_ ?_
 ·show (upd K i k' m).is P p.c p.Wg Im (p.Ss.set j S) (UT (t++u) m) x;rw[ul];by_cases cU:m=i
  ·subst cU;rw[aM]at hx;cases hx;rw[bw];have fi:j<p.Ss.length:=(SM.1 hS).1;exact⟨by rw[oi];exact hd.symm,hk,S,by simp[W9 fi],rfl⟩
  ·rw[hgo m cU hm]at hx;rw[a_ _ _ cU];have zW:=dh m x hm hx;have Cl:m<gs.size:=(SU.1 hx).1;have aE:(K m).idx≠some j:=λe=>cU (a8 m i j hm Cl hi hlt e xC);cases JE:K m with
   |work j2 h2 V2=>
    rw[JE]at zW aE;obtain⟨b1,b2,S2,b3,b4⟩:=zW;exact⟨b1,b2,S2,by rw[T6 (λe=>aE (by rw[e];rfl))];exact b3,b4⟩
   |nQ j2 h2 V2 V3 g2 v2 z2=>
    rw[JE]at zW aE;obtain⟨b1,b2,b3,b4,sp2,S2,B2,b5,b6⟩:=zW;exact⟨b1,b2,b3,b4,sp2,S2,B2,by rw[T6 (λe=>aE (by rw[e];rfl))];exact b5,b6⟩
   |_=>rw[JE]at zW;exact zW
 ·rw[aV];refine xy.Bc λm hm=> ?_;have fN:iR p gs.size ic (upd K i k') m:=hm;show iR p gs.size ic K m;unfold iR at fN⊢;rw[cY,oQ,v4]at fN;exact fN
 ·show Rest p.Wg (t++u) (upd K i k') ic st;have xM:Rest p.Wg t K ic st:=lL;rw[lq]at xM⊢;exact xM.app (λidx a ha hx=> .inr (hx.app (by obtain⟨op,au,_⟩:=UV ha;exact TG au) λm _ _ hm=> .inl (by rw[cY];exact hm))) (λidx a _ ⟨op,au,_,hx⟩ _=>by rw[(jC op au).1]at hx;cases hx)
 ·refine⟨a1,a2,a3,by rw[bN];exact a4,by rw[bN];exact a5,by simpa using a6,λm hm=> ?_,λm m' q b1 b2 b3 b4 b5 b6=>a8 m m' q b1 (aV▸b2) b3 (aV▸b4) (by rw[<- cY];exact b5) (by rw[<- cY];exact b6),λq S2 b1 b2=> ?_,?_⟩
  ·by_cases cU:m=i
   ·subst cU;rw[bw];exact⟨B1.1,B1.2.1,B1.2.2.1,B1.2.2.2,λx=>by cases x⟩
   ·rw[a_ _ _ cU];exact a7 m hm
  ·rw[aV];by_cases hq:q=j
   ·subst hq;exact⟨i,hi,hlt,by rw[cY];exact xC⟩
   ·have Ii:p.Ss[q]?=some S2:=by
     have:=b1;rwa [show ({p with Ss:=p.Ss.set j S}:Phase).Ss=p.Ss.set j S from rfl,T6 (Ne.symm hq)]at this
    obtain⟨m,e1,e2,e3⟩:=a9 q S2 Ii b2;exact⟨m,e1,e2,by rw[cY];exact e3⟩
  ·show if p.recv=true then _ else _;rw[if_pos aH];refine⟨⟨B4.1,B4.2.1,B4.2.2.1,B4.2.2.2⟩,c5,by rw[aV];exact c6,s',c7,?_⟩;have hle:(K i).cnt<=sumTo gs.size λi=>(K i).cnt:=WF (f:=λi=>(K i).cnt) hlt;rw[aV];exact c8.alW (by omega) lM v_ (g_ _ (Ne.symm a3))
end
section
variable {P:SJ}{n0:Nat}{W0:Tq}{V:View}{gs gs':Array SH}{w w':Tq}{sl:Option (Nat×Nat)}{t:Uk}{K:Nat->GS}{Im:cx}{ic:Nat}{p:Phase}{st st':Option eo}
theorem Inv.tC(h:Inv P n0 W0 V gs w t K Im ic (some p) st)(aH:p.recv=true){i:Nat}{gi bD:SH}{es:Array Uo}{k':GS}{s':eo}(hi:0<i)(aM:gs[i]?=some gi)(aQ:stepG P false gi w=.go bD w' es)
  (hk:k'.is P p.c p.Wg Im p.Ss (deafBehind (UT t i) es) bD) (p7:mC (k'.view Im) ((K i).view Im))
  (xw:k'.ng=true->i=ic) (cY:k'.idx=none) (xB:∀j,(K i).idx=some j->p.Ss[j]?=some []/\∃r,Rel p.Wg (t++Ta i gi.frame.fn gi.frame.place es) i r/\t.size<=r)
  (j7:i=ic\/(K i).idx.isSome=true\/(K i).cnt=1\/(K i).late=1)
  (cu:∀e∈es,∀x,(Tt e).touch?=some x->(qG p.c p.Wg x.loc/\x.kind=.atomic)\/(qG p.c p.Wg x.loc/\x.kind=.said/\i=ic)\/(¬qG p.c p.Wg x.loc/\gJ ((K i).view Im) x.loc/\x.write=false))
  (gZ:∀e∈es,(Tt e).low w.heap.size) (rn:∀e∈es,∀a,Tt e≠ .mark (.release a))
  (aV:w'.heap.size=w.heap.size) (iX:∀b,b≠p.c->b≠p.Wg->w'.heap[b]?=w.heap[b]?) (ht:w'.tape=w.tape) (ho:w'.os=w.os) (hu:w'.output=w.output)
  (xI:Mode P p.c p.Wg gs.size w' ((gs.map (woken P gi bD w')).setIfInBounds i bD) (t++Ta i gi.frame.fn gi.frame.place es) (upd K i k') ic s')
  (gE:(∃n,w'.heap[p.c]?=some (.chan 0 #[] false n n false))\/((∀j,0<j->j<gs.size->j≠i->(K j).idx=none)/\∀g,nV gs g p.c->kx ((gs.map (woken P gi bD w')).setIfInBounds i bD) g))
  (lL:Rest p.Wg (t++Ta i gi.frame.fn gi.frame.place es) (upd K i k') ic (some s'))
  (jC:AX gs.size ((λj=>(upd K i k' j).c_),flag ((gs.map (woken P gi bD w')).setIfInBounds i bD) ic) ((λj=>(K j).c_),flag gs ic)):gz P n0 W0 V gs w sl t K Im ic (some p) st i:=by
 have hlt:i<gs.size:=(SU.1 aM).1;obtain⟨_,hc,_,hp⟩:=h.out;obtain⟨a1,a2,a3,a4,a5,a6,a7,a8,a9,bT⟩:=hp;rw[if_pos aH]at bT;obtain⟨c1,c2,c3,_⟩:=bT;have qh:bF V Im K i=(K i).view Im:=by simp[bF];omega
 have B3:∀j,j<gs.size->jl p (bF V Im K j):=λj _=>by
  by_cases hj:j=0
  ·subst hj;rw[show bF V Im K 0=V by simp[bF]];exact⟨c1.1,c1.2.1,c1.2.2.1,c1.2.2.2⟩
  ·simp only[bF,hj,if_false];exact h.blind (by omega)
 have QY:nb (some p) gs.size ic K i:=by
  show iR p gs.size ic K i;unfold iR;rw[if_pos aH];exact⟨hi,hlt,by rcases j7 with x|x|x|x;exact .inr (.inl x);exact .inl x;exact .inr (.inr (.inl x));exact .inr (.inr (.inr x))⟩
 refine h.aa2 (st':=some s') hi aM aQ hk (λhb=> ?_) (λq hq=>by cases hq;exact gE.imp id And.left) ?_ lL ?_ jC ?_
 ·rcases GS.runs hk with x|⟨x,_⟩|⟨_,_,_,_,_,_,_,e⟩|⟨_,_,x⟩
  ·rw[x]at hb;cases hb
  ·rw[x]at hb;cases hb
  ·rw[e]at cY;cases cY
  ·exact x
 ·rw[Nu V Im K hi];have dQ:=hc.tC hlt (es:=es) (w':=w') (λe he x hx=>by
    rcases cu e he x hx with⟨x1,x2⟩|⟨x1,x2,x3⟩|⟨x1,x2,x3⟩
    ·exact .inl ⟨x1,x2,QY⟩
    ·exact .inr (.inl ⟨x1,x2,x3,QY⟩)
    ·exact .inr (.inr ⟨x1,.inr (.inl ⟨⟨hlt,by rw[qh];exact x2,x1⟩,x3⟩)⟩)) gZ rn (λb=>b=p.c\/b=p.Wg)
   (λb hb=>by
    rcases hb with rfl|rfl
    ·exact⟨a1,λj hj=>⟨(B3 j hj).1,(B3 j hj).2.1⟩⟩
    ·exact⟨a2,λj hj=>⟨(B3 j hj).2.2.1,(B3 j hj).2.2.2⟩⟩) aV (λb hb=>iX b (λx=>hb (.inl x)) (λx=>hb (.inr x))) ht ho hu gi.frame.fn gi.frame.place
  refine(dQ.less (V':=k'.view Im) hlt (by rw[qh];exact p7)).Bc λm hm=> ?_;have fN:iR p gs.size ic (upd K i k') m:=hm;show iR p gs.size ic K m;unfold iR at fN⊢;rw[if_pos aH]at fN⊢;by_cases cU:m=i
  ·subst cU;exact⟨hi,hlt,by rcases j7 with x|x|x|x;exact .inr (.inl x);exact .inl x;exact .inr (.inr (.inl x));exact .inr (.inr (.inr x))⟩
  ·rw[a_ _ _ cU]at fN;exact fN
 ·refine h.Mx (by simp) (by omega) ?_ xw (.inr ⟨cY,λj hj=>(xB j hj).1⟩) ?_
  ·have hb:=h.blind hi;exact⟨(p7.1 _).elim id (λx=>x.trans hb.1),λo=>(p7.2.1 _ o).elim id (λx=>x.trans (hb.2.1 o)),(p7.1 _).elim id (λx=>x.trans hb.2.2.1),λo=>(p7.2.1 _ o).elim id (λx=>x.trans (hb.2.2.2 o))⟩
  ·rw[if_pos aH];exact⟨s',rfl,xI⟩
 ·intro g c JY;refine⟨Md hi,λjb _=> ?_⟩;rw[<- JY p rfl]at jb⊢;rcases gE with x|⟨_,x⟩
  ·exact .inr ⟨Mv hi jb x,x⟩
  ·exact .inl (x g jb)
theorem Mode.alV{c Wg N:Nat}{u:Uk}{K':Nat->GS}{s:eo}(h:Mode P c Wg N w gs t K ic s)(e1:sumTo N (λi=>(K' i).cnt)=sumTo N λi=>(K i).cnt)(e2:sumTo N (λi=>(K' i).late)=sumTo N λi=>(K i).late)
  (e4:(K' ic).shape=(K ic).shape) (e5:∀i,i<N->((K' i).shape=.load 0\/(K' i).shape=.store 0)->((K i).shape=.load 0\/(K i).shape=.store 0)) (e6:∀i,i<N->(K' i).shape=.mw 0->(K i).shape=.mw 0) (hc:w'.heap[c]?=w.heap[c]?) (hW:w'.heap[Wg]?=w.heap[Wg]?)
  (hr:(∀g,gs[ic]?=some g->g.status=.running)->∀g,gs'[ic]?=some g->g.status=.running):Mode P c Wg N w' gs' (t++u) K' ic s:=by
 have e3:∀st sm,WgAt P Wg w' st sm=WgAt P Wg w st sm:=λst sm=>by unfold WgAt;rw[hW]
 unfold Mode at h⊢;simp only[e1,e2,e3,e4,hc];rcases h with h|h|h|h|h|h|h
 ·exact .inl h
 ·exact .inr (.inl h)
 ·exact .inr (.inr (.inl ⟨h.1,h.2.1,h.2.2.1,h.2.2.2.1,h.2.2.2.2.1,λi hi x=>h.2.2.2.2.2.1 i hi (e5 i hi x),λi hi x=>h.2.2.2.2.2.2 i hi (e6 i hi x)⟩))
 ·exact .inr (.inr (.inr (.inl ⟨h.1,h.2.1,h.2.2.1,h.2.2.2.1,h.2.2.2.2.1,hr h.2.2.2.2.2.1,h.2.2.2.2.2.2⟩)))
 ·exact .inr (.inr (.inr (.inr (.inl h))))
 ·exact .inr (.inr (.inr (.inr (.inr (.inl h)))))
 ·obtain⟨⟨p,n,a,b,c',d⟩,e⟩:=h;exact .inr (.inr (.inr (.inr (.inr (.inr ⟨⟨p,n,a,by rw[X0 (Wb b)];exact b,(Ws (Wb b)).2 c',d⟩,e⟩)))))
theorem Mode.waits{c Wg N:Nat}{s:eo}(h:Mode P c Wg N w gs t K ic s):(K ic).cnt=0/\(K ic).late=0:=by
 rw[<- GS.nh,<- GS.mq];rcases h with h|h|h|h|h|h|h
 ·rcases h.2.2.2.2.2 with⟨_,e,_⟩|⟨_,e,_⟩<;>rw[e]<;>exact⟨rfl,rfl⟩
 ·rcases h.2.2.2.2.2.2 with e|e<;>rw[e]<;>exact⟨rfl,rfl⟩
 ·rcases h.2.2.2.2.1 with e|e<;>rw[e]<;>exact⟨rfl,rfl⟩
 ·rcases h.2.2.2.2.2.2 with e|e<;>rw[e]<;>exact⟨rfl,rfl⟩
 ·rcases h.2.2.2.2.2 with e|e<;>rw[e]<;>exact⟨rfl,rfl⟩
 ·rcases h.2.2.2.2 with e|e<;>rw[e]<;>exact⟨rfl,rfl⟩
 ·rw[h.2.2.2];exact⟨rfl,rfl⟩
theorem x_{i:Nat}{k':GS}{a b:Nat}(hlt:i<gs.size)(hr:qF k'.c_ (K i).c_):AX gs.size ((λj=>(upd K i k' j).c_),a) ((λj=>(K j).c_),b):=
 .inl ⟨i,hlt,by simpa only[bw]using hr,λj hj=>by show (upd K i k' j).c_=(K j).c_;rw[a_ _ _ hj]⟩
theorem Inv.mode(h:Inv P n0 W0 V gs w t K Im ic (some p) st)(aH:p.recv=true):∃s,st=some s/\0<ic/\ic<gs.size/\Mode P p.c p.Wg gs.size w gs t K ic s:=by
 have hx:=h.phase.2.2.2.2.2.2.2.2.2;rw[if_pos aH]at hx;obtain⟨_,h1,h2,s,h3,h4⟩:=hx;exact⟨s,h3,h1,h2,h4⟩
theorem ofEvents_one{i:Nat}{fn:TO}{pos:String}{e:Uo}:Ta i fn pos #[e]=#[{g:=i,fn,pos,act:=.ofEvent e}]:=by simp[Ta]
theorem O6{t u:Uk}{g:Nat}:(t++u).deaf g t.size=UT t g:=deaf_old (SR _)
theorem Gj(U:View):mC noView U:=⟨λ_=> .inl rfl,λ_ _=> .inl rfl,λb hb=>absurd rfl hb⟩
theorem Inv.release(h:Inv P n0 W0 V gs w t K Im ic (some p) st)(aH:p.recv=true){i j:Nat}{gi:SH}{hh:Ht}{Vi V₁:View}{c Wg:Nat}(hi:0<i)(aM:gs[i]?=some gi)(hK:K i=.work j hh Vi)(hg:dW Vi V₁)
  (hr:V₁.role=.work c Wg []) (hd:V₁.deaf=0) (hf:DZ P Wg gi):gz P n0 W0 V gs w sl t K Im ic (some p) st i:=by
 have hlt:i<gs.size:=(SU.1 aM).1;have dh:=h.is i gi hi aM;simp only[hK,GS.is]at dh;obtain⟨bx,_,S,hS,jc⟩:=dh;rw[hg.role,jc]at hr;cases hr;have gM:(K i).cnt=1:=by rw[hK];rfl
 obtain⟨⟨n,gE⟩,lq⟩:=h.counted hi hlt gM;obtain⟨s,hs,gh,iH,hm⟩:=h.mode aH;rw[lq]at hs;cases hs;obtain⟨bK,g',lr,m,dx⟩:=hf;have aE:i≠ic:=λe=>by have:=(Mode.waits hm).1;rw[<- e,gM]at this;cases this
 have aT:UT t i=0:=by rw[bx,<- hg.deaf,hd]
 have ry:Rel p.Wg (t++Ta i gi.frame.fn gi.frame.place #[j3 (.releaseMerge (dV p.Wg))]) i t.size:=by
  rw[ofEvents_one];have e:(#[({g:=i,fn:=gi.frame.fn,pos:=gi.frame.place,act:=.ofEvent (j3 (.releaseMerge (dV p.Wg)))}:Wd)]:Uk)[0]?=some _:=rfl;have g0:=qT (t:=t) e;exact⟨ai_ g0,by simp[WC,g0],heard_new e rfl (by rw[show t.size+0=t.size from rfl,O6];exact aT)⟩
 have nD:∀e∈#[j3 (.releaseMerge (dV p.Wg))],e=j3 (.releaseMerge (dV p.Wg)):=λe he=>by simpa using he
 refine h.tC aH (k':=.add m) (s':=.early) hi aM (lr w) ?_ (by rw[hK];exact Gj _) (λx=>by cases x) rfl (λj' im=> ?_) (.inr (.inr (.inl gM))) (λe he x hx=> ?_) (λe he=> ?_) (λe he a=> ?_) rfl (λ_ _ _=>rfl) rfl rfl rfl ?_ (.inl ⟨n,gE⟩) ?_ (x_ hlt ?_)
 ·show cQ P (AJ P p.Wg) m _ g';rw[aT];exact dx
 ·rw[hK]at im;cases im;exact⟨hS,t.size,ry,SR _⟩
 ·rw[nD e he]at hx;cases hx
 ·rw[nD e he];exact h.low.2
 ·rw[nD e he];simp[j3,Tt]
 ·refine hm.alV (lz K _ GS.cnt (by rw[gM];rfl)) (lz K _ GS.late (by rw[hK];rfl)) (by rw[a_ _ _ (Ne.symm aE)]) (λm hm=> ?_) (λm hm=> ?_) rfl rfl (abX hlt ?_)
  ·by_cases cU:m=i
   ·subst cU;rw[bw];intro x;rcases x with x|x<;>cases x
   ·rw[a_ _ _ cU];exact id
  ·by_cases cU:m=i
   ·subst cU;rw[bw];intro x;cases x
   ·rw[a_ _ _ cU];exact id
  ·exact cQ.running (λd g x=>x.2.1) dx
 ·have hr:Rest p.Wg t K ic st:=h.out.2.2.1;rw[lq]at hr;refine hr.app (λidx a ha hx=> .inr (hx.app (by obtain⟨op,au,_⟩:=UV ha;exact TG au) λm pS _ hm=> ?_)) (λidx a _ ⟨op,au,_,hx⟩ _=> ?_)
  ·by_cases cU:m=i
   ·subst cU;exact .inr ⟨t.size,ry,by obtain⟨op,au,_⟩:=UV ha;exact Nat.le_of_lt (TG au)⟩
   ·rw[a_ _ _ cU];exact .inl hm
  ·rw[ofEvents_one]at au;simp only[TJ,SL,S4,or_false]at au;subst au;cases hx
 ·rw[hK];refine .inl ?_;simp only[GS.c_,jc];omega
def Atom (a:U3)(es:Array Uo):Prop:=es=#[iT a]\/es=#[k_ a]\/es=#[iT a,k_ a]\/es=Aq a
theorem Atom.mem{a:U3}{es:Array Uo}(h:Atom a es){e:Uo}(he:e∈es):e=iT a\/e=k_ a\/e=j3 .disable\/e=j3 .enable:=by
 rcases h with rfl|rfl|rfl|rfl<;>simp only[Aq,TJ,SL,S4,or_false]at he
 ·exact .inl he
 ·exact .inr (.inl he)
 ·exact he.imp id .inl
 ·rcases he with x|x|x|x
  ·exact .inr (.inr (.inl x))
  ·exact .inl x
  ·exact .inr (.inl x)
  ·exact .inr (.inr (.inr x))
theorem Atom.behind{a:U3}{es:Array Uo}(h:Atom a es):deafBehind 1 es=1:=by
 rcases h with rfl|rfl|rfl|rfl<;>rfl
theorem Atom.touch{a:U3}{es:Array Uo}(h:Atom a es){e:Uo}(he:e∈es){x:YN}(hx:(Tt e).touch?=some x):x.loc=.cell a/\x.kind=.atomic:=by
 rcases h.mem he with rfl|rfl|rfl|rfl
 ·cases hx;exact⟨rfl,rfl⟩
 ·cases hx;exact⟨rfl,rfl⟩
 ·cases hx
 ·cases hx
theorem Atom.low{a:U3}{es:Array Uo}(h:Atom a es){n:Nat}(ha:a.block<n){e:Uo}(he:e∈es):(Tt e).low n:=by
 rcases h.mem he with rfl|rfl|rfl|rfl
 ·exact ha
 ·exact ha
 ·trivial
 ·trivial
theorem Atom.norel{a:U3}{es:Array Uo}(h:Atom a es){e:Uo}(he:e∈es)(b:U3):Tt e≠ .mark (.release b):=by
 rcases h.mem he with rfl|rfl|rfl|rfl<;>simp[iT,k_,j3,Tt]
theorem Atom.arL{a:U3}{es:Array Uo}(h:Atom a es){i:Nat}{fn:TO}{pos:String}(hd:UT t i=1){idx:Nat}{op:Wd}{x:YN}(cY:t.size<=idx)(au:(t++Ta i fn pos es)[idx]?=some op)(hx:op.act.touch?=some x):
  ¬(t++Ta i fn pos es).heard idx:=by
 obtain⟨k,rfl⟩:∃k,idx=t.size+k:=⟨idx-t.size,by omega⟩;have sY:(Ta i fn pos es)[k]?=some op:=by rw[X2 (by omega)]at au;simpa using au
 have aM:op.g=i:=by obtain⟨e,_,rfl⟩:=TL (XR sY);rfl
 rintro⟨g,hg,hz⟩
 have:g=i:=by simp[WC,au,aM]at hg;exact hg.symm
 subst this;have Aw:∀y:Wd,y.act=Tt (iT a)\/y.act=Tt (k_ a)->still y.act:=λy hy=>by rcases hy with e|e<;>rw[e]<;>exact⟨by simp[iT,k_,Tt],by simp[iT,k_,Tt]⟩
 rcases h with rfl|rfl|rfl|rfl
 ·have:=tZ (t:=t) (u:=Ta g fn pos #[iT a]) (g:=g) (λop au=>by obtain⟨e,he,rfl⟩:=TL au;simp only[TJ,SL,S4,or_false]at he;subst he;exact Aw _ (.inl rfl)) (k:=k) (by have:=TG sY;omega);omega
 ·have:=tZ (t:=t) (u:=Ta g fn pos #[k_ a]) (g:=g) (λop au=>by obtain⟨e,he,rfl⟩:=TL au;simp only[TJ,SL,S4,or_false]at he;subst he;exact Aw _ (.inr rfl)) (k:=k) (by have:=TG sY;omega);omega
 ·have:=tZ (t:=t) (u:=Ta g fn pos #[iT a,k_ a]) (g:=g) (λop au=>by obtain⟨e,he,rfl⟩:=TL au;simp only[TJ,SL,S4,or_false]at he;rcases he with rfl|rfl;exact Aw _ (.inl rfl);exact Aw _ (.inr rfl)) (k:=k) (by have:=TG sY;omega);omega
 ·
  have eu:Ta g fn pos (Aq a)=#[{g,fn,pos,act:=.mark .disable},{g,fn,pos,act:=.ofEvent (iT a)},{g,fn,pos,act:=.ofEvent (k_ a)},{g,fn,pos,act:=.mark .enable}]:=by simp[Ta,Aq,j3,Tt]
  rw[eu]at sY hz;have d0:(t++#[({g,fn,pos,act:=.mark .disable}:Wd),{g,fn,pos,act:=.ofEvent (iT a)},{g,fn,pos,act:=.ofEvent (k_ a)},{g,fn,pos,act:=.mark .enable}]).deaf g t.size=1:=by rw[O6];exact hd
  have d1:=ad_ (g:=g) (qT (t:=t) (show (#[({g,fn,pos,act:=.mark .disable}:Wd),{g,fn,pos,act:=.ofEvent (iT a)},{g,fn,pos,act:=.ofEvent (k_ a)},{g,fn,pos,act:=.mark .enable}]:Uk)[0]?=some _ from rfl));have d2:=ad_ (g:=g) (qT (t:=t) (show (#[({g,fn,pos,act:=.mark .disable}:Wd),{g,fn,pos,act:=.ofEvent (iT a)},{g,fn,pos,act:=.ofEvent (k_ a)},{g,fn,pos,act:=.mark .enable}]:Uk)[1]?=some _ from rfl));have d3:=ad_ (g:=g) (qT (t:=t) (show (#[({g,fn,pos,act:=.mark .disable}:Wd),{g,fn,pos,act:=.ofEvent (iT a)},{g,fn,pos,act:=.ofEvent (k_ a)},{g,fn,pos,act:=.mark .enable}]:Uk)[2]?=some _ from rfl));rw[IA (Aw _ (.inl rfl))]at d2;rw[IA (Aw _ (.inr rfl))]at d3;simp only[UK]at d1;rw[d0]at d1;have d1:=d1.trans (show deafStep g 1 {g,fn,pos,act:=.mark .disable}=2 by simp[deafStep]);have hk:k<4:=by have:=TG sY;simpa using this
  match k,hk with
  |0,_=>simp at sY;subst sY;cases hx
  |1,_=>rw[d1]at hz;omega
  |2,_=>rw[show t.size+2=t.size+1+1 from rfl,d2,d1]at hz;omega
  |3,_=>simp at sY;subst sY;cases hx
theorem Rest.atom{Wg:Nat}{s:eo}(hr:Rest Wg t K ic (some s)){a:U3}{es:Array Uo}(h:Atom a es){i:Nat}{fn:TO}{pos:String}(hd:UT t i=1){K':Nat->GS}(cY:∀m,(K' m).idx=(K m).idx):Rest Wg (t++Ta i fn pos es) K' ic (some s):=by
 refine hr.app (λidx a ha hx=> .inr (hx.app (by obtain⟨op,au,_⟩:=UV ha;exact TG au) λm _ _ hm=> .inl (by rw[cY];exact hm))) (λidx x hi ⟨op,au,xB,hx⟩ _=> .inr (.inl ⟨?_,h.arL hd hi xB hx⟩));obtain⟨e,he,rfl⟩:=TL au;exact(h.touch he hx).2
theorem WgAt.G6{Wg:Nat}{a b:Int}(h:WgAt P Wg w a b)(v:Int):WgAt P Wg (w.setCell (dV Wg) (.int .u64 v)) v b:=by
 unfold WgAt at h⊢;unfold Xi;rw[Wl];simp[dV,h,wgBlock]
theorem WgAt.acm{Wg:Nat}{a b:Int}(h:WgAt P Wg w a b)(v:Int):WgAt P Wg (w.setCell (oC Wg) (.int .u32 v)) a v:=by
 unfold WgAt at h⊢;unfold Xi;rw[Wl];simp[oC,h,wgBlock]
theorem WgAt.inj{Wg:Nat}{a b a' b':Int}(h:WgAt P Wg w a b)(k:WgAt P Wg w a' b'):a=a'/\b=b':=by
 unfold WgAt at h k;rw[h]at k;simp[wgBlock]at k;exact k
theorem Inv.Eh(h:Inv P n0 W0 V gs w t K Im ic (some p) st)(aH:p.recv=true){i:Nat}{gi bD:SH}{es:Array Uo}{k':GS}{s:eo}{a:U3}(hs:st=some s)(hi:0<i)(aM:gs[i]?=some gi)(aQ:stepG P false gi w=.go bD w' es)(hd:UT t i=1)
  (ha:Atom a es) (zh:a=dV p.Wg\/a=oC p.Wg) (nJ:w'=w\/∃x,w'=w.setCell a x) (hk:k'.is P p.c p.Wg Im p.Ss 1 bD) (p7:mC (k'.view Im) ((K i).view Im)) (xw:k'.ng=true->i=ic) (cY:k'.idx=none) (uo:(K i).idx=none)
  (j7:i=ic\/(K i).cnt=1\/(K i).late=1) (gE:∃n,w.heap[p.c]?=some (.chan 0 #[] false n n false))
  (xI:Mode P p.c p.Wg gs.size w' ((gs.map (woken P gi bD w')).setIfInBounds i bD) (t++Ta i gi.frame.fn gi.frame.place es) (upd K i k') ic s) (uv:qF k'.c_ (K i).c_):gz P n0 W0 V gs w sl t K Im ic (some p) st i:=by
 have hlt:i<gs.size:=(SU.1 aM).1;have vO:a.block=p.Wg:=by rcases zh with rfl|rfl<;>rfl
 have rc:p.c≠p.Wg:=h.phase.2.2.1;have iX:∀b,b≠p.Wg->w'.heap[b]?=w.heap[b]?:=λb hb=>by
  rcases nJ with rfl|⟨x,rfl⟩
  ·rfl
  ·exact vT _ _ _ (by rw[vO];exact Ne.symm hb)
 have aV:w'.heap.size=w.heap.size:=by rcases nJ with rfl|⟨x,rfl⟩;rfl;exact Dl _ _ _
 refine h.tC aH hi aM aQ (by rw[hd,ha.behind];exact hk) p7 xw cY (λj hj=>by rw[uo]at hj;cases hj) (j7.imp id .inr) (λe he x hx=> .inl ?_) (λe he=>ha.low (by rw[vO];exact h.low.2) he) (λe he b=>ha.norel he b) aV (λb _ hb=>iX b hb)
  (by rcases nJ with rfl|⟨x,rfl⟩<;>rfl) (by rcases nJ with rfl|⟨x,rfl⟩<;>rfl) (by rcases nJ with rfl|⟨x,rfl⟩<;>rfl) xI (.inl (by rw[iX _ rc];exact gE)) ?_ (x_ hlt uv)
 ·have:=ha.touch he hx;exact⟨by rw[this.1];exact vO,this.2⟩
 ·have hr:Rest p.Wg t K ic st:=h.out.2.2.1;rw[hs]at hr;exact hr.atom ha hd λm=>by
   by_cases hm:m=i
   ·subst hm;rw[bw,cY,uo]
   ·rw[a_ _ _ hm]
theorem Inv.aeD(h:Inv P n0 W0 V gs w t K Im ic (some p) st)(aH:p.recv=true){i n:Nat}{gi:SH}(hi:0<i)(aM:gs[i]?=some gi)(hK:K i=.add n)(jD:AJ P p.Wg (UT t i) gi):gz P n0 W0 V gs w sl t K Im ic (some p) st i:=by
 have hlt:i<gs.size:=(SU.1 aM).1;obtain⟨s,hs,gh,iH,hm⟩:=h.mode aH;have gM:(K i).cnt=1:=by rw[hK];rfl
 have fj:(K i).late=0:=by rw[hK];rfl
 have uo:(K i).idx=none:=by rw[hK];rfl
 have gE:=(h.counted hi hlt gM).1;have aE:ic≠i:=λe=>by have:=(Mode.waits hm).1;rw[e,gM]at this;cases this
 obtain⟨hd,bK,FS⟩:=jD;have hle:(K i).cnt<=sumTo gs.size λi=>(K i).cnt:=WF (f:=λi=>(K i).cnt) hlt;have rc:p.c≠p.Wg:=h.phase.2.2.1;have hq:∀(k':GS),sumTo gs.size (λa=>(upd K i k' a).cnt)+(K i).cnt=sumTo gs.size (λa=>(K a).cnt)+k'.cnt:=λk'=>Ax K k' GS.cnt hlt;have s8:∀(k':GS),sumTo gs.size (λa=>(upd K i k' a).late)+(K i).late=sumTo gs.size (λa=>(K a).late)+k'.late:=λk'=>Ax K k' GS.late hlt;have p7:∀k':GS,k'.view Im=noView->mC (k'.view Im) ((K i).view Im):=λk' e=>by rw[e];exact Gj _
 have leave:∀(wt v:Nat),wt<=1->v+1=(sumTo gs.size λi=>(K i).cnt)->v<4->¬(v=0/\wt=1)->s=.early->(sumTo gs.size λi=>(K i).late)=0->WgAt P p.Wg w (((v+1:Nat):Int)* KK+wt) 0->
   ((wt=0/\((∃k,(K ic).shape=.head k 0/\v<k)\/(∃u,(K ic).shape=.l9 u 0/\v<=u/\0<u)))\/(wt=1/\((K ic).shape=.said 0\/(K ic).shape=.gX 0)))->gz P n0 W0 V gs w sl t K Im ic (some p) st i:=by
  intro wt v uz hv FY fO Sq atf hW aY;obtain⟨g',aQ,_,kF⟩:=FS v wt uz FY;obtain⟨q,kF⟩:=kF fO;have Cw:=hq (.gone q);have Cv:=s8 (.gone q);simp only[gM,fj]at Cw Cv;rw[show (GS.gone q).cnt=0 from rfl]at Cw;rw[show (GS.gone q).late=0 from rfl]at Cv;refine h.Eh aH (k':=.gone q) (a:=dV p.Wg) hs hi aM (aQ w hW) hd (.inr (.inr (.inl rfl))) (.inl rfl) (.inr ⟨_,rfl⟩) kF (p7 _ rfl) (λx=>by cases x) rfl uo (.inr (.inl gM)) gE ?_ (by rw[hK];exact .inl (by simp[GS.c_]));have vH:=hW.G6 ((v:Int)* KK+wt);unfold Mode;simp only[a_ _ _ aE];have IS:sumTo gs.size (λa=>(upd K i (.gone q) a).cnt)=v:=by omega
  have IV:sumTo gs.size (λa=>(upd K i (.gone q) a).late)=0:=by omega
  simp only[IS,IV];have ho:∃n,(w.setCell (dV p.Wg) (.int .u64 ((v:Int)* KK+wt))).heap[p.c]?=some (.chan 0 #[] false n n false):=by
   obtain⟨n,hn⟩:=gE;exact⟨n,by rw[vT _ _ _ (Ne.symm rc)];exact hn⟩
  rcases aY with⟨rfl,aY⟩|⟨rfl,aY⟩
  ·exact .inl ⟨ho,Sq,trivial,by omega,by simpa using vH,aY⟩
  ·exact .inr (.inl ⟨ho,Sq,trivial,by omega,by omega,by simpa using vH,aY⟩)
 unfold Mode at hm;rcases hm with m|m|m|m|m|m|m
 ·obtain⟨m1,m2,m3,m4,m5,m6⟩:=m;refine leave 0 ((sumTo gs.size λi=>(K i).cnt)-1) (by omega) (by omega) (by omega) (by omega) m2 m3 ?_ (.inl ⟨rfl,?_⟩)
  ·rw[show (sumTo gs.size λi=>(K i).cnt)-1+1=(sumTo gs.size λi=>(K i).cnt) by omega];simpa using m5
  ·rcases m6 with⟨k,e1,e2⟩|⟨u,e1,e2,e3⟩
   ·exact .inl ⟨k,e1,by omega⟩
   ·exact .inr ⟨u,e1,by omega,e3⟩
 ·obtain⟨m1,m2,m3,m4,m5,m6,m7⟩:=m;by_cases hv:(sumTo gs.size λi=>(K i).cnt)=1
  ·
   obtain⟨g',aQ,iY,_⟩:=FS 0 1 (by omega) (by omega);obtain⟨n',iY⟩:=iY ⟨rfl,rfl⟩;have Cw:=hq (.load n');have Cv:=s8 (.load n');simp only[gM,fj]at Cw Cv;rw[show (GS.load n').cnt=0 from rfl]at Cw;rw[show (GS.load n').late=1 from rfl]at Cv;rw[hv]at m6;have hW:WgAt P p.Wg w (((0+1:Nat):Int)* KK+(1:Nat)) 0:=(by simpa using m6);refine h.Eh aH (k':=.load n') (a:=dV p.Wg) hs hi aM (aQ w hW) hd (.inr (.inr (.inl rfl))) (.inl rfl) (.inr ⟨_,rfl⟩) iY (p7 _ rfl) (λx=>by cases x) rfl uo (.inr (.inl gM)) gE ?_ (by rw[hK];exact .inl (by simp[GS.c_]));have vH:=hW.G6 (((0:Nat):Int)* KK+(1:Nat));unfold Mode;simp only[a_ _ _ aE];have IS:sumTo gs.size (λa=>(upd K i (.load n') a).cnt)=0:=(by omega);have IV:sumTo gs.size (λa=>(upd K i (.load n') a).late)=1:=(by omega);simp only[IS,IV];have ho:∃n,(w.setCell (dV p.Wg) (.int .u64 (((0:Nat):Int)* KK+(1:Nat)))).heap[p.c]?=some (.chan 0 #[] false n n false):=by
    obtain⟨n,hn⟩:=gE;exact⟨n,by rw[vT _ _ _ (Ne.symm rc)];exact hn⟩
   refine .inr (.inr (.inl ⟨ho,m2,trivial,trivial,m7,λ_ _ _=>by simpa using vH,λm hm qb=> ?_⟩));exfalso;have cU:m≠i:=λe=>(by subst e;rw[bw]at qb;cases qb);rw[a_ _ _ cU]at qb;have RJ:(K m).late<=sumTo gs.size λi=>(K i).late:=WF (f:=λi=>(K i).late) hm;rw[m3,<- GS.mq,qb]at RJ;simp[GS.late]at RJ
  ·refine leave 1 ((sumTo gs.size λi=>(K i).cnt)-1) (by omega) (by omega) (by omega) (by omega) m2 m3 ?_ (.inr ⟨rfl,m7⟩);rw[show (sumTo gs.size λi=>(K i).cnt)-1+1=(sumTo gs.size λi=>(K i).cnt) by omega];simpa using m6
 ·have:=m.2.2.2.1;omega
 ·have:=m.2.2.2.1;omega
 ·have:=m.2.2.2.1;omega
 ·have:=m.2.2.2.1;omega
 ·have:=m.2.2.1;omega
theorem Mode.CW{c Wg N:Nat}{s:eo}(hm:Mode P c Wg N w gs t K ic s){i:Nat}(hlt:i<N)(fj:(K i).late=1):
  (∃n,w.heap[c]?=some (.chan 0 #[] false n n false))/\s=.early/\(sumTo N λi=>(K i).late)=1/\(sumTo N λi=>(K i).cnt)=0/\((K ic).shape=.said 0\/(K ic).shape=.gX 0)/\
  (((K i).shape=.load 0\/(K i).shape=.store 0)->WgAt P Wg w 1 0)/\((K i).shape=.mw 0->WgAt P Wg w 0 0):=by
 have hle:(K i).late<=sumTo N λi=>(K i).late:=WF (f:=λi=>(K i).late) hlt;unfold Mode at hm;rcases hm with m|m|m|m|m|m|m
 ·have:=m.2.2.1;omega
 ·have:=m.2.2.1;omega
 ·exact⟨m.1,m.2.1,m.2.2.1,m.2.2.2.1,m.2.2.2.2.1,m.2.2.2.2.2.1 i hlt,m.2.2.2.2.2.2 i hlt⟩
 ·have:=m.2.2.1;omega
 ·have:=m.2.2.1;omega
 ·have:=m.2.2.1;omega
 ·have:=m.2.1;omega
theorem abq{N:Nat}(h:(sumTo N λi=>(K i).late)=1){i m:Nat}(hi:i<N)(hm:m<N)(aE:m≠i)(fj:(K i).late=1):(K m).late=0:=by
 have:=Ax K (.gone 0) GS.late hi;have h2:((upd K i (.gone 0)) m).late<=sumTo N λa=>(upd K i (.gone 0) a).late:=WF (f:=λa=>(upd K i (.gone 0) a).late) hm;rw[a_ _ _ aE]at h2;simp only[fj,h,show (GS.gone 0).late=0 from rfl]at this;omega
theorem Inv.LW(h:Inv P n0 W0 V gs w t K Im ic (some p) st)(aH:p.recv=true){i:Nat}{gi bD:SH}{es:Array Uo}{k':GS}{a:U3}(hi:0<i)(aM:gs[i]?=some gi)(aQ:stepG P false gi w=.go bD w' es)(hd:UT t i=1)
  (ha:Atom a es) (zh:a=dV p.Wg\/a=oC p.Wg) (nJ:w'=w\/∃x,w'=w.setCell a x) (hk:k'.is P p.c p.Wg Im p.Ss 1 bD) (hv:k'.view Im=noView) (cY:k'.idx=none) (uo:(K i).idx=none) (oQ:(K i).cnt=0) (ajP:k'.cnt=0) (xw:k'.ng=false) (fj:(K i).late=1)
  (vU:(k'.late=1/\((k'.shape=.load 0\/k'.shape=.store 0)->WgAt P p.Wg w' 1 0)/\(k'.shape=.mw 0->WgAt P p.Wg w' 0 0))\/
   (k'.late=0/\WgAt P p.Wg w' 0 1/\∀g,((gs.map (woken P gi bD w')).setIfInBounds i bD)[ic]?=some g->g.status=.running)) (uv:qF k'.c_ (K i).c_):gz P n0 W0 V gs w sl t K Im ic (some p) st i:=by
 have hlt:i<gs.size:=(SU.1 aM).1;obtain⟨s,hs,gh,iH,hm⟩:=h.mode aH;obtain⟨m1,m2,m3,m4,m5,m6,m7⟩:=hm.CW hlt fj;have aE:ic≠i:=λe=>by have:=(Mode.waits hm).2;rw[e,fj]at this;cases this
 have rc:p.c≠p.Wg:=h.phase.2.2.1;have vO:a.block=p.Wg:=by rcases zh with rfl|rfl<;>rfl
 have iX:∀b,b≠p.Wg->w'.heap[b]?=w.heap[b]?:=λb hb=>by
  rcases nJ with rfl|⟨x,rfl⟩
  ·rfl
  ·exact vT _ _ _ (by rw[vO];exact Ne.symm hb)
 refine h.Eh aH hs hi aM aQ hd ha zh nJ hk (by rw[hv];exact Gj _) (λx=>by rw[xw]at x;cases x) cY uo (.inr (.inr fj)) m1 ?_ uv;have e1:sumTo gs.size (λa=>(upd K i k' a).cnt)=0:=by have:=Ax K k' GS.cnt hlt;simp only[oQ,ajP,m4]at this;omega
 unfold Mode;simp only[a_ _ _ aE,e1,iX _ rc];rcases vU with⟨x1,x2,x3⟩|⟨x1,x2,x3⟩
 ·have e2:sumTo gs.size (λa=>(upd K i k' a).late)=1:=by have:=Ax K k' GS.late hlt;simp only[fj,x1,m3]at this;omega
  refine .inr (.inr (.inl ⟨m1,m2,e2,trivial,m5,λm hm dQ=> ?_,λm hm dQ=> ?_⟩))
  ·by_cases cU:m=i
   ·subst cU;rw[bw]at dQ;exact x2 dQ
   ·rw[a_ _ _ cU]at dQ;have:=abq m3 hlt hm cU fj;rw[<- GS.mq]at this;rcases dQ with e|e<;>rw[e]at this<;>cases this
  ·by_cases cU:m=i
   ·subst cU;rw[bw]at dQ;exact x3 dQ
   ·rw[a_ _ _ cU]at dQ;have:=abq m3 hlt hm cU fj;rw[<- GS.mq,dQ]at this;cases this
 ·have e2:sumTo gs.size (λa=>(upd K i k' a).late)=0:=by have:=Ax K k' GS.late hlt;simp only[fj,x1,m3]at this;omega
  exact .inr (.inr (.inr (.inl ⟨m1,m2,e2,trivial,x2,x3,m5⟩)))
theorem Inv.amL(h:Inv P n0 W0 V gs w t K Im ic (some p) st)(aH:p.recv=true){i n:Nat}{gi:SH}(hi:0<i)(aM:gs[i]?=some gi)(hK:K i=.load n)(jD:DR P p.Wg (UT t i) gi):gz P n0 W0 V gs w sl t K Im ic (some p) st i:=by
 have hlt:i<gs.size:=(SU.1 aM).1;obtain⟨s,hs,gh,iH,hm⟩:=h.mode aH;have fj:(K i).late=1:=by rw[hK];rfl
 obtain⟨m1,m2,m3,m4,m5,m6,m7⟩:=hm.CW hlt fj;obtain⟨hd,bK,g',aQ,n',dx⟩:=jD;have hW:=m6 (by rw[hK];exact .inl rfl);exact h.LW aH (k':=.store n') (a:=dV p.Wg) hi aM (aQ w hW) hd (.inl rfl) (.inl rfl) (.inl rfl) dx rfl rfl (by rw[hK];rfl) (by rw[hK];rfl) rfl rfl fj (.inl ⟨rfl,λ_=>hW,λx=>by cases x⟩) (by rw[hK];exact .inl (by simp[GS.c_]))
theorem Inv.aqS(h:Inv P n0 W0 V gs w t K Im ic (some p) st)(aH:p.recv=true){i n:Nat}{gi:SH}(hi:0<i)(aM:gs[i]?=some gi)(hK:K i=.store n)(jD:DU P p.Wg (UT t i) gi):gz P n0 W0 V gs w sl t K Im ic (some p) st i:=by
 have hlt:i<gs.size:=(SU.1 aM).1;obtain⟨s,hs,gh,iH,hm⟩:=h.mode aH;have fj:(K i).late=1:=by rw[hK];rfl
 obtain⟨m1,m2,m3,m4,m5,m6,m7⟩:=hm.CW hlt fj;obtain⟨hd,bK,g',aQ,n',dx⟩:=jD;have hW:=m6 (by rw[hK];exact .inr rfl);exact h.LW aH (k':=.mw n') (a:=dV p.Wg) hi aM (aQ w hW) hd (.inr (.inl rfl)) (.inl rfl) (.inr ⟨_,rfl⟩) dx rfl rfl (by rw[hK];rfl) (by rw[hK];rfl) rfl rfl fj (.inl ⟨rfl,λx=>(x.elim (λy=>by cases y) (λy=>by cases y)),λ_=>hW.G6 0⟩) (by rw[hK];exact .inl (by simp[GS.c_]))
theorem Inv.ap8(h:Inv P n0 W0 V gs w t K Im ic (some p) st)(aH:p.recv=true){i n:Nat}{gi:SH}(hi:0<i)(aM:gs[i]?=some gi)(hK:K i=.mw n)(jD:DT P p.Wg (UT t i) gi):gz P n0 W0 V gs w sl t K Im ic (some p) st i:=by
 have hlt:i<gs.size:=(SU.1 aM).1;obtain⟨s,hs,gh,iH,hm⟩:=h.mode aH;have fj:(K i).late=1:=by rw[hK];rfl
 obtain⟨m1,m2,m3,m4,m5,m6,m7⟩:=hm.CW hlt fj;obtain⟨hd,bK,KA,g',aQ,q,kF⟩:=jD;have hW:=m7 (by rw[hK];rfl);have aE:ic≠i:=λe=>by have:=(Mode.waits hm).2;rw[e,fj]at this;cases this
 refine h.LW aH (k':=.gone q) (a:=oC p.Wg) hi aM (aQ w hW) hd (.inr (.inr (.inr rfl))) (.inr rfl) (.inr ⟨_,rfl⟩) kF rfl rfl (by rw[hK];rfl) (by rw[hK];rfl) rfl rfl fj (.inr ⟨rfl,hW.acm 1,λg hg=> ?_⟩) (by rw[hK];exact .inl (by simp[GS.c_]));rcases getElem?_next hlt hg with⟨e,_⟩|⟨_,y,hy,rfl⟩
 ·exact absurd e aE
 ·have xE:=h.is ic y gh hy;simp only at xE;have dQ:(∃n,K ic=.said n)\/∃n,K ic=.gX n:=by
   cases xj:K ic<;>rw[xj]at m5<;>simp[GS.shape]at m5
   ·exact .inl ⟨_,rfl⟩
   ·exact .inr ⟨_,rfl⟩
  rcases dQ with⟨n1,e⟩|⟨n1,e⟩
  ·rw[e]at xE;have hr:y.status=.running:=gU.running (λd g x=>x.2.1) xE;rw[Yk hr];exact hr
  ·rw[e]at xE;rcases xE with xE|⟨_,g1,rfl,Kd⟩
   ·have hr:y.status=.running:=cQ.running (λd g x=>x.2.1) xE;rw[Yk hr];exact hr
   ·have Kj:g'.status=.running\/g'.status=.finished:=ZL kF;unfold woken;have ajO:(mayWake P gi&&g'.status != .blocked&&g'.status != .waiting)=true:=(by rcases Kj with hs|hs<;>simp[KA,hs]);rw[if_pos ajO];unfold Y0;have:=Kd.2.2.1;simp[this]
theorem Mode.afc{c Wg N k:Nat}{s:eo}(hm:Mode P c Wg N w gs t K ic s)(e:(K ic).shape=.head k 0):
  (∃n,w.heap[c]?=some (.chan 0 #[] false n n false))/\s=.early/\(sumTo N λi=>(K i).late)=0/\(sumTo N λi=>(K i).cnt)<=4/\WgAt P Wg w (((sumTo N λi=>(K i).cnt:Nat):Int)* KK) 0/\(sumTo N λi=>(K i).cnt)<k:=by
 unfold Mode at hm;simp only[e]at hm;rcases hm with m|m|m|m|m|m|m
 ·obtain⟨a,b,c,d,f,x⟩:=m;refine⟨a,b,c,d,f,?_⟩;rcases x with⟨k',x,y⟩|⟨v,x,_⟩
  ·cases x;exact y
  ·cases x
 ·rcases m.2.2.2.2.2.2 with x|x<;>cases x
 ·rcases m.2.2.2.2.1 with x|x<;>cases x
 ·rcases m.2.2.2.2.2.2 with x|x<;>cases x
 ·rcases m.2.2.2.2.2 with x|x<;>cases x
 ·rcases m.2.2.2.2 with x|x<;>cases x
 ·cases m.2.2.2
theorem Mode.afb{c Wg N v:Nat}{s:eo}(hm:Mode P c Wg N w gs t K ic s)(e:(K ic).shape=.l9 v 0):
  (∃n,w.heap[c]?=some (.chan 0 #[] false n n false))/\s=.early/\(sumTo N λi=>(K i).late)=0/\(sumTo N λi=>(K i).cnt)<=4/\WgAt P Wg w (((sumTo N λi=>(K i).cnt:Nat):Int)* KK) 0/\(sumTo N λi=>(K i).cnt)<=v/\0<v:=by
 unfold Mode at hm;simp only[e]at hm;rcases hm with m|m|m|m|m|m|m
 ·obtain⟨a,b,c,d,f,x⟩:=m;refine⟨a,b,c,d,f,?_⟩;rcases x with⟨k',x,y⟩|⟨v,x,y⟩
  ·cases x
  ·cases x;exact y
 ·rcases m.2.2.2.2.2.2 with x|x<;>cases x
 ·rcases m.2.2.2.2.1 with x|x<;>cases x
 ·rcases m.2.2.2.2.2.2 with x|x<;>cases x
 ·rcases m.2.2.2.2.2 with x|x<;>cases x
 ·rcases m.2.2.2.2 with x|x<;>cases x
 ·cases m.2.2.2
theorem Mode.Of{c Wg N:Nat}{s:eo}(hm:Mode P c Wg N w gs t K ic s)(e:(K ic).shape=.last 0\/(K ic).shape=.acq 0):
  (∃n,w.heap[c]?=some (.chan 0 #[] false n n false))/\s=.early/\(sumTo N λi=>(K i).late)=0/\(sumTo N λi=>(K i).cnt)=0/\WgAt P Wg w 0 0:=by
 unfold Mode at hm;rcases hm with m|m|m|m|m|m|m
 ·rcases m.2.2.2.2.2 with⟨_,x,_⟩|⟨_,x,_⟩<;>rcases e with e|e<;>rw[e]at x<;>cases x
 ·rcases m.2.2.2.2.2.2 with x|x<;>rcases e with e|e<;>rw[e]at x<;>cases x
 ·rcases m.2.2.2.2.1 with x|x<;>rcases e with e|e<;>rw[e]at x<;>cases x
 ·rcases m.2.2.2.2.2.2 with x|x<;>rcases e with e|e<;>rw[e]at x<;>cases x
 ·exact⟨m.1,m.2.1,m.2.2.1,m.2.2.2.1,m.2.2.2.2.1⟩
 ·rcases m.2.2.2.2 with x|x<;>rcases e with e|e<;>rw[e]at x<;>cases x
 ·have x:=m.2.2.2;rcases e with e|e<;>rw[e]at x<;>cases x
theorem Mode.Og{c Wg N:Nat}{s:eo}(hm:Mode P c Wg N w gs t K ic s)(e:(K ic).shape=.look 0\/(K ic).shape=.close 0):
  (∃n,w.heap[c]?=some (.chan 0 #[] false n n false))/\s=.got/\(sumTo N λi=>(K i).late)=0/\(sumTo N λi=>(K i).cnt)=0:=by
 unfold Mode at hm;rcases hm with m|m|m|m|m|m|m
 ·rcases m.2.2.2.2.2 with⟨_,x,_⟩|⟨_,x,_⟩<;>rcases e with e|e<;>rw[e]at x<;>cases x
 ·rcases m.2.2.2.2.2.2 with x|x<;>rcases e with e|e<;>rw[e]at x<;>cases x
 ·rcases m.2.2.2.2.1 with x|x<;>rcases e with e|e<;>rw[e]at x<;>cases x
 ·rcases m.2.2.2.2.2.2 with x|x<;>rcases e with e|e<;>rw[e]at x<;>cases x
 ·rcases m.2.2.2.2.2 with x|x<;>rcases e with e|e<;>rw[e]at x<;>cases x
 ·exact⟨m.1,m.2.1,m.2.2.1,m.2.2.2.1⟩
 ·have x:=m.2.2.2;rcases e with e|e<;>rw[e]at x<;>cases x
theorem Mode.Oh{c Wg N:Nat}{s:eo}(hm:Mode P c Wg N w gs t K ic s)(e:(K ic).shape=.said 0\/(K ic).shape=.gX 0):
  (∃n,w.heap[c]?=some (.chan 0 #[] false n n false))/\s=.early/\((∃st,WgAt P Wg w st 0)\/((sumTo N λi=>(K i).late)=0/\(sumTo N λi=>(K i).cnt)=0/\WgAt P Wg w 0 1))/\
  ∀{w':Tq}{gs':Array SH}{u:Uk}{k':GS},(k'.shape=.said 0\/k'.shape=.gX 0)->w'.heap[c]?=w.heap[c]?->w'.heap[Wg]?=w.heap[Wg]?->(WgAt P Wg w 0 1->∀g,gs'[ic]?=some g->g.status=.running)->ic<N->Mode P c Wg N w' gs' (t++u) (upd K ic k') ic s:=by
 have wait:∀{k:GS},(k.shape=.said 0\/k.shape=.gX 0)->k.cnt=0/\k.late=0:=λ{k} h=>by rw[<- GS.nh,<- GS.mq];rcases h with h|h<;>rw[h]<;>exact⟨rfl,rfl⟩
 have tail:∀(w':Tq)(gs':Array SH)(u:Uk)(k':GS),(k'.shape=.said 0\/k'.shape=.gX 0)->w'.heap[c]?=w.heap[c]?->w'.heap[Wg]?=w.heap[Wg]?->(WgAt P Wg w 0 1->∀g,gs'[ic]?=some g->g.status=.running)->ic<N->Mode P c Wg N w' gs' (t++u) (upd K ic k') ic s:=by
  intro w' gs' u k' hk hc hW hr fL;have e1:sumTo N (λi=>(upd K ic k' i).cnt)=sumTo N λi=>(K i).cnt:=lz K k' GS.cnt (by rw[(wait hk).1,(wait e).1]);have e2:sumTo N (λi=>(upd K ic k' i).late)=sumTo N λi=>(K i).late:=lz K k' GS.late (by rw[(wait hk).2,(wait e).2]);have e3:∀st sm,WgAt P Wg w' st sm=WgAt P Wg w st sm:=λst sm=>by unfold WgAt;rw[hW]
  have e5:∀i (q:GS),(q=.load 0\/q=.store 0\/q=.mw 0)->(upd K ic k' i).shape=q->(K i).shape=q:=λi q hq hs=>by
   by_cases hi:i=ic
   ·subst hi;rw[bw]at hs;rcases hk with x|x<;>rw[x]at hs<;>subst hs<;>rcases hq with y|y|y<;>cases y
   ·rw[a_ _ _ hi]at hs;exact hs
  unfold Mode at hm⊢;simp only[e1,e2,e3,hc,bw];rcases hm with m|m|m|m|m|m|m
  ·rcases m.2.2.2.2.2 with⟨_,x,_⟩|⟨_,x,_⟩<;>rcases e with e|e<;>rw[e]at x<;>cases x
  ·exact .inr (.inl ⟨m.1,m.2.1,m.2.2.1,m.2.2.2.1,m.2.2.2.2.1,m.2.2.2.2.2.1,hk⟩)
  ·exact .inr (.inr (.inl ⟨m.1,m.2.1,m.2.2.1,m.2.2.2.1,hk,λi hi x=>m.2.2.2.2.2.1 i hi (x.imp (e5 i _ (.inl rfl)) (e5 i _ (.inr (.inl rfl)))),λi hi x=>m.2.2.2.2.2.2 i hi (e5 i _ (.inr (.inr rfl)) x)⟩))
  ·exact .inr (.inr (.inr (.inl ⟨m.1,m.2.1,m.2.2.1,m.2.2.2.1,m.2.2.2.2.1,hr m.2.2.2.2.1,hk⟩)))
  ·rcases m.2.2.2.2.2 with x|x<;>rcases e with e|e<;>rw[e]at x<;>cases x
  ·rcases m.2.2.2.2 with x|x<;>rcases e with e|e<;>rw[e]at x<;>cases x
  ·have x:=m.2.2.2;rcases e with e|e<;>rw[e]at x<;>cases x
 have iI:=hm;unfold Mode at hm;rcases hm with m|m|m|m|m|m|m
 ·rcases m.2.2.2.2.2 with⟨_,x,_⟩|⟨_,x,_⟩<;>rcases e with e|e<;>rw[e]at x<;>cases x
 ·exact⟨m.1,m.2.1,.inl ⟨_,m.2.2.2.2.2.1⟩,λ{w'} {gs'} {u} {k'}=>tail w' gs' u k'⟩
 ·refine⟨m.1,m.2.1,.inl ?_,λ{w'} {gs'} {u} {k'}=>tail w' gs' u k'⟩;have:∃i,i<N/\(K i).late=1:=by
   apply Tl;intro fO;have hz:sumTo N (λi=>(K i).late)=sumTo N λ_=>0:=Vl λi hi=>by
    have aE:¬(K i).late=1:=λx=>fO ⟨i,hi,x⟩;cases lc:K i<;>rw[lc]at aE<;>first|rfl|exact absurd rfl aE
   have h0:sumTo N (λ_=>0)=0:=by
    have:∀N,sumTo N (λ_=>0)=0:=λN=>(by induction N with|zero=>rfl|succ N ih=>simp[sumTo,ih]);exact this N
   have:=m.2.2.1;omega
  obtain⟨i,hi,fj⟩:=this;obtain⟨_,_,_,_,_,m6,m7⟩:=iI.CW hi fj;cases lc:K i<;>rw[lc]at fj m6 m7<;>simp[GS.late]at fj
  ·exact⟨1,m6 (.inl rfl)⟩
  ·exact⟨1,m6 (.inr rfl)⟩
  ·exact⟨0,m7 rfl⟩
 ·exact⟨m.1,m.2.1,.inr ⟨m.2.2.1,m.2.2.2.1,m.2.2.2.2.1⟩,λ{w'} {gs'} {u} {k'}=>tail w' gs' u k'⟩
 ·rcases m.2.2.2.2.2 with x|x<;>rcases e with e|e<;>rw[e]at x<;>cases x
 ·rcases m.2.2.2.2 with x|x<;>rcases e with e|e<;>rw[e]at x<;>cases x
 ·have x:=m.2.2.2;rcases e with e|e<;>rw[e]at x<;>cases x
theorem Gi(Im:cx):mC {noView with ab:=Im} {noView with ab:=Im}:=⟨λ_=> .inr rfl,λ_ _=> .inr rfl,λ_ _ _=>rfl⟩
theorem amv(Im:cx):mC noView {noView with ab:=Im}:=⟨λ_=> .inr rfl,λ_ _=> .inl rfl,λb hb=>absurd rfl hb⟩
theorem Inv.yO(h:Inv P n0 W0 V gs w t K Im ic (some p) st)(aH:p.recv=true){gi bD:SH}{es:Array Uo}{k':GS}{a:U3}{s:eo}(hs:st=some s)(aM:gs[ic]?=some gi)(aQ:stepG P false gi w=.go bD w' es)(hd:UT t ic=1)
  (ha:Atom a es) (zh:a=dV p.Wg\/a=oC p.Wg) (nJ:w'=w\/∃x,w'=w.setCell a x) (hk:k'.is P p.c p.Wg Im p.Ss 1 bD) (hv:k'.view Im={noView with ab:=Im}) (xR:(K ic).view Im={noView with ab:=Im}) (cY:k'.idx=none) (uo:(K ic).idx=none)
  (gE:∃n,w.heap[p.c]?=some (.chan 0 #[] false n n false))
  (xI:Mode P p.c p.Wg gs.size w' ((gs.map (woken P gi bD w')).setIfInBounds ic bD) (t++Ta ic gi.frame.fn gi.frame.place es) (upd K ic k') ic s) (uv:qF k'.c_ (K ic).c_):gz P n0 W0 V gs w sl t K Im ic (some p) st ic:=by
 obtain⟨s',_,gh,_,_⟩:=h.mode aH;exact h.Eh aH hs gh aM aQ hd ha zh nJ hk (by rw[hv,xR];exact Gi Im) (λ_=>rfl) cY uo (.inl rfl) gE xI uv
theorem Inv.aj8(h:Inv P n0 W0 V gs w t K Im ic (some p) st)(aH:p.recv=true){k n:Nat}{gi:SH}(aM:gs[ic]?=some gi)(hK:K ic=.head k n)(jD:eM P Im p.c p.Wg k (UT t ic) gi):gz P n0 W0 V gs w sl t K Im ic (some p) st ic:=by
 obtain⟨s,hs,gh,iH,hm⟩:=h.mode aH;obtain⟨m1,m2,m3,m4,m5,m6⟩:=hm.afc (k:=k) (by rw[hK];rfl);obtain⟨k,rfl⟩:∃k',k=k'+1:=⟨k-1,by omega⟩;obtain⟨hd,bK,FS⟩:=eM.succ _ _ _ _ jD;obtain⟨g',aQ,hz,KG⟩:=FS _ (by omega) m4;have lN:=aQ w m5;have tY:∀k':GS,k'.cnt=0->k'.late=0->sumTo gs.size (λi=>(upd K ic k' i).cnt)=(sumTo gs.size λi=>(K i).cnt)/\sumTo gs.size (λi=>(upd K ic k' i).late)=(sumTo gs.size λi=>(K i).late):=λk' h1 h2=>
  ⟨lz K k' GS.cnt (by rw[h1,hK];rfl),lz K k' GS.late (by rw[h2,hK];rfl)⟩
 by_cases hv:(sumTo gs.size λi=>(K i).cnt)=0
 ·obtain⟨n',dx⟩:=hz hv;refine h.yO aH (k':=.acq n') (a:=dV p.Wg) hs aM lN hd (.inl rfl) (.inl rfl) (.inl rfl) dx rfl (by rw[hK];rfl) rfl (by rw[hK];rfl) m1 ?_ (by rw[hK];exact .inl (by simp[GS.c_];omega));unfold Mode;simp only[(tY (.acq n') rfl rfl).1,(tY (.acq n') rfl rfl).2,bw];refine .inr (.inr (.inr (.inr (.inl ⟨m1,m2,m3,hv,?_,.inr rfl⟩))));rw[hv]at m5;simpa using m5
 ·obtain⟨n',dx⟩:=KG hv;refine h.yO aH (k':=.l9 (sumTo gs.size λi=>(K i).cnt) n') (a:=dV p.Wg) hs aM lN hd (.inl rfl) (.inl rfl) (.inl rfl) dx rfl (by rw[hK];rfl) rfl (by rw[hK];rfl) m1 ?_ (by rw[hK];exact .inl (by simp[GS.c_];omega));unfold Mode;simp only[(tY (.l9 _ n') rfl rfl).1,(tY (.l9 _ n') rfl rfl).2,bw];exact .inl ⟨m1,m2,m3,m4,m5,.inr ⟨_,rfl,SR _,by omega⟩⟩
theorem Inv.agd(h:Inv P n0 W0 V gs w t K Im ic (some p) st)(aH:p.recv=true){v n:Nat}{gi:SH}(aM:gs[ic]?=some gi)(hK:K ic=.l9 v n)(jD:DM P p.c p.Wg Im v (UT t ic) gi):gz P n0 W0 V gs w sl t K Im ic (some p) st ic:=by
 obtain⟨s,hs,gh,iH,hm⟩:=h.mode aH;obtain⟨m1,m2,m3,m4,m5,m6,m7⟩:=hm.afb (v:=v) (by rw[hK];rfl);obtain⟨hd,bK,⟨g1,FR,n1,ali⟩,akt⟩:=jD;have rc:p.c≠p.Wg:=h.phase.2.2.1;have tY:∀k':GS,k'.cnt=0->k'.late=0->sumTo gs.size (λi=>(upd K ic k' i).cnt)=(sumTo gs.size λi=>(K i).cnt)/\sumTo gs.size (λi=>(upd K ic k' i).late)=(sumTo gs.size λi=>(K i).late):=λk' h1 h2=>
  ⟨lz K k' GS.cnt (by rw[h1,hK];rfl),lz K k' GS.late (by rw[h2,hK];rfl)⟩
 by_cases hv:(sumTo gs.size λi=>(K i).cnt)=v
 ·refine h.yO aH (k':=.said n1) (a:=dV p.Wg) hs aM (FR w (by rw[<- hv];exact m5)) hd (.inr (.inr (.inl rfl))) (.inl rfl) (.inr ⟨_,rfl⟩) ali rfl (by rw[hK];rfl) rfl (by rw[hK];rfl) m1 ?_ (by rw[hK];exact .inl (by simp[GS.c_];omega));unfold Mode;simp only[(tY (.said n1) rfl rfl).1,(tY (.said n1) rfl rfl).2,bw];refine .inr (.inl ⟨?_,m2,m3,by omega,m4,?_,.inl rfl⟩)
  ·obtain⟨n,hn⟩:=m1;exact⟨n,by rw[vT _ _ _ (Ne.symm rc)];exact hn⟩
  ·rw[hv];exact m5.G6 _
 ·obtain⟨g',lN,n',dx⟩:=akt (sumTo gs.size λi=>(K i).cnt) (by omega);refine h.yO aH (k':=.head v n') (a:=dV p.Wg) hs aM (lN w m5) hd (.inl rfl) (.inl rfl) (.inl rfl) dx rfl (by rw[hK];rfl) rfl (by rw[hK];rfl) m1 ?_ (by rw[hK];exact .inl (by simp[GS.c_]));unfold Mode;simp only[(tY (.head v n') rfl rfl).1,(tY (.head v n') rfl rfl).2,bw];exact .inl ⟨m1,m2,m3,m4,m5,.inl ⟨v,rfl,by omega⟩⟩
theorem Inv.al3(h:Inv P n0 W0 V gs w t K Im ic (some p) st)(aH:p.recv=true){n:Nat}{gi:SH}(aM:gs[ic]?=some gi)(hK:K ic=.last n)(jD:HH P Im p.c p.Wg (UT t ic) gi):gz P n0 W0 V gs w sl t K Im ic (some p) st ic:=by
 obtain⟨s,hs,gh,iH,hm⟩:=h.mode aH;obtain⟨m1,m2,m3,m4,m5⟩:=hm.Of (.inl (by rw[hK];rfl));obtain⟨hd,bK,g',aQ,n',dx⟩:=jD;refine h.yO aH (k':=.acq n') (a:=dV p.Wg) hs aM (aQ w m5) hd (.inl rfl) (.inl rfl) (.inl rfl) dx rfl (by rw[hK];rfl) rfl (by rw[hK];rfl) m1 ?_ (by rw[hK];exact .inl (by simp[GS.c_]));unfold Mode;have e1:sumTo gs.size (λi=>(upd K ic (.acq n') i).cnt)=0:=by rw[lz K (.acq n') GS.cnt (by rw[hK];rfl)];exact m4
 have e2:sumTo gs.size (λi=>(upd K ic (.acq n') i).late)=0:=by rw[lz K (.acq n') GS.late (by rw[hK];rfl)];exact m3
 simp only[e1,e2,bw];exact .inr (.inr (.inr (.inr (.inl ⟨m1,m2,trivial,trivial,m5,.inr rfl⟩))))
theorem Inv.agr(h:Inv P n0 W0 V gs w t K Im ic (some p) st)(aH:p.recv=true){n:Nat}{gi:SH}(aM:gs[ic]?=some gi)(hK:K ic=.gX n)(jD:DO P Im p.c p.Wg (UT t ic) gi):gz P n0 W0 V gs w sl t K Im ic (some p) st ic:=by
 obtain⟨s,hs,gh,iH,hm⟩:=h.mode aH;obtain⟨m1,m2,m3,mk⟩:=hm.Oh (.inr (by rw[hK];rfl));obtain⟨hd,bK,akE,vO,g',Sw,n',dx⟩:=jD;have rc:p.c≠p.Wg:=h.phase.2.2.1;rcases m3 with⟨stv,hW⟩|⟨m4,m5,hW⟩
 ·
  have aQ:=vO w stv hW;have aky:¬WgAt P p.Wg w 0 1:=λx=>by have:=(hW.inj x).2;cases this
  refine h.tC aH (k':=.gX 0) (s':=s) gh aM aQ (.inr ⟨rfl,gi,rfl,by rw[hd];exact⟨rfl,bK,akE,vO,g',Sw,n',dx⟩⟩) (by rw[hK];exact Gi Im) (λ_=>rfl) rfl (λj hj=>by rw[hK]at hj;cases hj) (.inl rfl) (by simp) (by simp) (by simp) rfl (λ_ _ _=>rfl) rfl rfl rfl
   (mk (.inr rfl) rfl rfl (λx=>absurd x aky) iH) (.inl m1) ?_ ?_
  ·have e0:t++Ta ic gi.frame.fn gi.frame.place #[]=t:=(by simp[Ta]);have hr:Rest p.Wg t K ic st:=h.out.2.2.1;rw[hs]at hr;refine hr.app (λidx a ha hx=> .inr (hx.app (by obtain⟨op,au,_⟩:=UV ha;exact TG au) λm _ _ hj=> .inl ?_)) (λidx a _ ⟨op,au,_⟩ _=>by simp[Ta]at au);by_cases cU:m=ic
   ·subst cU;rw[hK]at hj;cases hj
   ·rw[a_ _ _ cU];exact hj
  ·by_cases hn:n=0
   ·refine .inr ⟨funext λj=> ?_,?_⟩
    ·by_cases hj:j=ic
     ·subst hj;simp only[bw,hK,hn]
     ·simp only[a_ _ _ hj]
    ·simp only[flag];rw[S_ (by simpa using iH),aM];simp[bK]
   ·exact x_ iH (by rw[hK];exact .inr ⟨rfl,.inr ⟨rfl,by simp only[GS.c_];omega⟩⟩)
 ·refine h.yO aH (k':=.last n') (a:=oC p.Wg) hs aM (Sw w hW) hd (.inr (.inr (.inr rfl))) (.inr rfl) (.inr ⟨_,rfl⟩) dx rfl (by rw[hK];rfl) rfl (by rw[hK];rfl) m1 ?_ (by rw[hK];exact .inl (by simp[GS.c_]));unfold Mode;have e1:sumTo gs.size (λi=>(upd K ic (.last n') i).cnt)=0:=by rw[lz K (.last n') GS.cnt (by rw[hK];rfl)];exact m5
  have e2:sumTo gs.size (λi=>(upd K ic (.last n') i).late)=0:=by rw[lz K (.last n') GS.late (by rw[hK];rfl)];exact m4
  simp only[e1,e2,bw];obtain⟨n,hn⟩:=m1;exact .inr (.inr (.inr (.inr (.inl ⟨⟨n,by rw[vT _ _ _ (Ne.symm rc)];exact hn⟩,m2,trivial,trivial,hW.acm 0,.inl rfl⟩))))
theorem Inv.apO(h:Inv P n0 W0 V gs w t K Im ic (some p) st)(aH:p.recv=true){n:Nat}{gi:SH}(aM:gs[ic]?=some gi)(hK:K ic=.said n)(jD:DN P Im p.c p.Wg (UT t ic) gi):gz P n0 W0 V gs w sl t K Im ic (some p) st ic:=by
 obtain⟨s,hs,gh,iH,hm⟩:=h.mode aH;obtain⟨m1,m2,m3,mk⟩:=hm.Oh (.inl (by rw[hK];rfl));obtain⟨hd,bK,g',aQ,n',dx⟩:=jD;have nD:∀e∈#[j3 (.write (oC p.Wg))],e=j3 (.write (oC p.Wg)):=λe he=>by simpa using he
 have So:g'.status=.running:=cQ.running (λd g x=>x.2.1) dx;refine h.tC aH (k':=.gX n') (s':=s) gh aM (aQ w) (.inl (by rw[hd];exact dx)) (by rw[hK];exact Gi Im) (λ_=>rfl) rfl (λj hj=>by rw[hK]at hj;cases hj) (.inl rfl) (λe he x hx=> .inr (.inl ?_)) (λe he=> ?_) (λe he a=> ?_) rfl (λ_ _ _=>rfl) rfl rfl rfl
  (mk (.inr rfl) rfl rfl (λ_ g hg=> ?_) iH) (.inl m1) ?_ (x_ iH (by rw[hK];exact .inl (by simp[GS.c_])))
 ·rw[nD e he]at hx;cases hx;exact⟨rfl,rfl,rfl⟩
 ·rw[nD e he];exact h.low.2
 ·rw[nD e he];simp[j3,Tt]
 ·rcases getElem?_next iH hg with⟨_,rfl⟩|⟨aE,_⟩
  ·exact So
  ·exact absurd rfl aE
 ·have hr:Rest p.Wg t K ic st:=h.out.2.2.1;rw[hs,m2]at hr;rw[m2];refine hr.app (λidx a ha hx=> .inr (hx.app (by obtain⟨op,au,_⟩:=UV ha;exact TG au) λm _ _ hj=> .inl ?_)) (λidx a _ ⟨op,au,xB,_⟩ _=> .inr (.inr ⟨ic,?_,gh,.inr (.inl rfl)⟩))
  ·by_cases cU:m=ic
   ·subst cU;rw[hK]at hj;cases hj
   ·rw[a_ _ _ cU];exact hj
  ·obtain⟨e,_,rfl⟩:=TL au;simp[WC,xB]
end
end Go.Gg
