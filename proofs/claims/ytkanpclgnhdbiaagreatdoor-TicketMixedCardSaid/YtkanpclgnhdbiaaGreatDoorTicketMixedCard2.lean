/- A part of the proof. -/
import Derived.Test.YtkanpclgnhdbiaaGreatDoorTicketMixedCard1
import Derived.Conc.Beside
import Derived.Conc.CrowdTrace
import Derived.Conc.CrowdComm
set_option linter.all false
set_option maxRecDepth 4000
set_option maxHeartbeats 4000000
open Array renaming getElem?_append_right->X4,getElem?_eq_getElem->SK,getElem?_eq_some_iff->SU,getElem?_map->WC,getElem?_modify->Wi,getElem?_setIfInBounds_ne->SW,getElem?_setIfInBounds_self_of_lt->S_,getElem_mem->XS,mem_append->Ut,size_append->Xy
open Bool renaming false_eq_true->TM
open Classical renaming byContradiction->Ts
open Go renaming Addr->U1,Code->Ua,Deferred->UW,Event->Ur,FuncId->TO,Goroutine->SG,IntKind->TY,LoopState->Z7,MemOp->Wc,Operand->Th,Program->SJ,ResultVar->UN,Touch->YH,Trace->Un,Value->SQ,World->To
open Go.BinOp renaming neq->Wu
open Go.Conc renaming Deaf->US,Deaf_other->at1,Knows->Wm,QuitsD->Y4,act?_of->af_,act?_old->X2,deaf_succ->Z',getElem?_append_cases->Xg,getElem?_stand->X7,heard_old->Wq,knows_own->Zb,lt_of_act?->Wa,lt_size_of_getElem?->TH,mem_ofEvents->TL,mem_of_getElem?->XR,ofEvent_cell0->am_,offersAt_of_not_blocked->UU,offersAt_ph->Zl,served->T6,touch_mute->ZT,touch_of->UT,woken_run->Yg
open Go.Conc.QuitsD renaming status->ZE
open Go.ConcN renaming le_sumTo->WB,sumTo_congr->Vl
open Go.Event renaming mute->WF
open Go.GoStatus renaming blocked->atZ
open Go.Goroutine renaming again->YS
open Go.IntKind renaming i64->SE
open Go.MemAct renaming low_mono->Zi,ofEvent->Tq,touch?->Wd
open Go.MemAct.mark renaming injEq->ah'
open Go.MemOp renaming ofEvents->Ta
open Go.Obj renaming deferred->aub
open Go.Op renaming equal->Xm
open Go.Proofs.Tryz renaming f107->ag',f109->ag_,f89->al_,f97->ar',prog->SC
open Go.Trace renaming g?->Wz
open Go.Value renaming int->SF
open Go.World renaming cell?->Uy,setCell->Xf
open Int renaming toNat->XJ
open List renaming append_assoc->SA,append_nil->SI,cons_append->Ve,drop->T1,drop_append->Vw,drop_append_of_le_length->Wp,drop_drop->ak',drop_eq_getElem_cons->TR,drop_eq_nil_of_le->TW,drop_zero->Xw,ext_getElem?->Yj,flatMap_append->Vz,flatMap_cons->Ub,foldl->ab_,foldl_append->ZN,foldl_cons->UX,getD_eq_getElem?_getD->SD,getElem?_append_left->SY,getElem?_append_right->S8,getElem?_drop->Up,getElem?_eq_getElem->SO,getElem?_eq_some_iff->SM,getElem?_map->Tn,getElem?_set->UP,getElem?_set_ne->T7,getElem?_set_self->W5,getElem?_take->Ul,getElem_mem->Wy,getLastD_eq_getLast?->Vf,length_append->SP,length_drop->Uo,length_map->Tm,length_set->TE,map->U5,mapM_cons->T_,mapM_nil->UC,map_append->TN,map_congr_left->VB,map_cons->UV,map_drop->ag2,map_flatMap->Vv,map_map->XW,map_singleton->Y8,map_take->VX,mem_append->SV,mem_append_left->Tf,mem_append_right->S4,mem_cons->SL,mem_flatMap->S6,mem_flatten->XH,mem_iff_getElem?->UQ,mem_map->Tl,mem_of_getElem?->Td,mem_of_mem_take->Xv,mem_or_eq_of_mem_set->UB,mem_replicate->Xu,mem_singleton->S9,mem_toArray->TJ,nil_append->UK,nodup_append->U4,not_mem_nil->S0,range->SZ,range'->Ud,range'_append_1->Y6,range'_succ->VT,range_eq_range'->Vp,range_succ->Vk,replicate->TG,replicate_succ->Wt,set_append_left->U2,set_append_right->T9,set_cons_succ->UE,set_cons_zero->T4,set_eq_take_append_cons_drop->XL,set_set->W4,take->TU,take_add_one->VJ,take_append_drop->Vd,take_append_of_le_length->Tw,take_length->TQ,take_of_length_le->SS,take_set->Z2,take_succ->Wx,take_succ_cons->VS,take_take->UZ,take_zero->ak_
open List.Perm renaming refl->ab'
open Nat renaming add_sub_cancel->VY,add_sub_cancel_left->TS,add_zero->UD,eq_zero_or_pos->UH,le_of_eq->WG,le_refl->SR,le_trans->UL,lt_of_lt_of_le->Tc,lt_trans->Wn,reduceAdd->SX,strongRecOn->Yi,sub_self->Va,sub_zero->ZW,zero_add->Wr
open Option renaming bind_eq_bind->TP,getD_some->S7,map_eq_some_iff->Tp,pure_def->Uj,toList_some->YL
open Option.some renaming inj->Vj,injEq->Tj
open Prod.mk renaming injEq->UY
namespace Go.Gg
open Go.Conc Go.Proofs Go.Gg.Tk
theorem JH{α:Type}(g:Nat->List α)(i:Nat):(SZ (i+1)).flatMap g=(SZ i).flatMap g++g i:=by
 rw[Vk,Vz];simp
theorem JG{α:Type}(g:Nat->List α){i n:Nat}(h:i<n):(SZ n).flatMap g=(SZ i).flatMap g++(g i++(Ud (i+1) (n-(i+1))).flatMap g):=by
 have:SZ n=SZ i++(i::Ud (i+1) (n-(i+1))):=by
  rw[Vp,Vp,<- VT];have:=Y6 (s:=0) (m:=i) (n:=n-(i+1)+1);rw[Wr]at this;rw[this];congr 1;omega
 rw[this,Vz,Ub]
theorem NX{α:Type}{l:List α}{i:Nat}{v:α}(h:i<l.length):(l.set i v).take (i+1)=l.take i++[v]:=by
 rw[Wx,Z2,UP,if_pos rfl,if_pos h,List.set_eq_of_length_le (by simp;omega)];rfl
namespace Tk
def ju (h:List Int)(hour j:Nat)(n:Int):List Int:=h.take hour++TG j n++h.drop (hour+j)
theorem Fe{h:List Int}{hour j:Nat}{n:Int}(hj:hour+j<=h.length):(ju h hour j n).length=h.length:=by simp[ju];omega
theorem aiQ(h:List Int)(hour:Nat)(n:Int):ju h hour 0 n=h:=by simp[ju]
theorem Jy{h:List Int}{hour j:Nat}{n:Int}(hj:hour+j<h.length):(ju h hour j n).set (hour+j) n=ju h hour (j+1) n:=by
 unfold ju;have hl:(h.take hour++TG j n).length=hour+j:=by simp;omega
 rw[T9 _ _ (by omega),hl,Va,List.replicate_succ'];rw[TR hj,T4,SA,SA,SA];rfl
theorem aiP{h:List Int}{hour j:Nat}{n:Int}(hn:h[hour]?=some n)(hj:hour+j<=h.length):(ju h hour j n)[hour]?=some n:=by
 have hl:=e_ hn;unfold ju;rw[SA,S8 (by simp;omega)];have:hour-(h.take hour).length=0:=by simp;omega
 rw[this];cases j with
 |zero=>simpa using hn
 |succ j=>simp[Wt]
theorem aiO{h pre:List Int}{hour:Nat}{n:Int}(h4:h.length=4)(hn:h[hour]?=some n)(hp:pre=h.take (hour+1)):ju h hour (4-hour) n=cQ pre:=by
 have hl:=e_ hn;have e:pre=h.take hour++[n]:=by rw[hp,Wx,hn];rfl
 unfold ju cQ;rw[TW (by omega),SI,e];have h1:(h.take hour++[n]).length=hour+1:=by simp;omega
 rw[h1,show (h.take hour++[n]).getLastD 0=n by simp[Vf],SA];congr 1;rw[show 4-hour=(4-(hour+1))+1 by omega,Wt];rfl
theorem abZ{h pre:List Int}{hour:Nat}{n:Int}(hn:h[hour]?=some n)(hp:pre=h.take (hour+1)):pre.length=hour+1/\pre.getLastD 0=n:=by
 have hl:=e_ hn;have e:pre=h.take hour++[n]:=by rw[hp,Wx,hn];rfl
 subst e;exact⟨by simp;omega,by simp[Vf]⟩
end Tk
open Go.Conc Go.Proofs Go.Gg.Tk
section
variable {lv:Bool}
def qE (yv:AV)(N ir it:Nat)(h:List Int):List aa:=[.cells [yv] 130,.cells (h.map iv) 83,.cells [.fn (.func 87) [] [.op ir 0,.op (N+1) 0]] 68,.cells [.fn (.func 89) [] [.op (N+2) 0,.op ir 0,.op (N+1) 0,.op N 0,.op it 0,.op (N+3) 0]] 68]
theorem aiB{x:aj}{bh N ir it:Nat}{yv pv:AV}{S:Type}{f:S->List Int->dJ S}{Gf:S->List aa}{I:S->Prop}{A:List Int->Prop}(hx:x.Ok)(hY:j6 lv SC yv f Gf N I A pv)(hr:∀σ L,(Gf σ++L)[ir]?=some (.cells x.l 76))(ht:∀σ L,(Gf σ++L)[it]?=some (.cells [iv bh] 3))(me:bh<=3):
  ∀(d hour:Nat)(h pre:List Int)(n0:Int)(σ:S)(M:List aa)(k kp:AV->List aa->Prop),d+hour=x.hours.toNat->h.length=4->h[hour]?=some n0->(0<=n0/\n0<=90+3* hour)->pre=h.take (hour+1)->I σ->(∀a∈nh x bh d pre,A a)->
   (∀h',h'.length=4->h'.take (hour+1)=pre->dc Gf pv k kp (qE yv N ir it h'++M) (bI f (nh x bh d pre) σ))->
   bk lv SC 89 (Gf σ++(qE yv N ir it h++M)) [iv hour,.op (N+2) 0,.op ir 0,.op (N+1) 0,.op N 0,.op it 0,.op (N+3) 0] k kp:=by
 intro d;induction d with
 |zero=>
  intro hour h pre n0 σ M k kp pF h4 oU hb hp hI hA hk;refine bL (rs:=[.tmp 8]) (nt:=61) al_ λhH uF=> ?_;simp only[bt,SX];obtain⟨cN,uW⟩:=abZ oU hp;have pH:hour<4:=by have:=e_ oU;omega
  have KO:=hx.hours;have bT:x.l=[iv x.first,iv x.hours,iv x.am,dP x.seen,aS x.pieces,aS x.aB]:=rfl;have g0:∀(σ:S)(L:List aa),(Gf σ++L)[N]?=L[0]?:=λσ L=>hY.get σ L 0;have g1:∀(σ:S)(L:List aa),(Gf σ++L)[N+1]?=L[1]?:=λσ L=>hY.get σ L 1;have g2:∀(σ:S)(L:List aa),(Gf σ++L)[N+2]?=L[2]?:=λσ L=>hY.get σ L 2;have s1:∀(σ:S)(L:List aa) x,(Gf σ++L).set (N+1) x=Gf σ++L.set 1 x:=λσ L x=>hY.set σ L 1 x;rw[nh,cN,uW,VY]at hA hk;refine ak ?_;refine ai ?_;simp only[seval,g2,qE];refine aI ((Qm (x:=x) (h:=h) (n:=n0) hx h4 oU (hr _ _) (by rw[g1];rfl) ?_));(try simp only[seval]);refine aD ?_;refine⟨λhs=> ?_,λhs=> ?_⟩
  ·refine ak ?_;refine bf ?_;have:=hk h h4 hp.symm;rw[hs]at this;simp only[TM,if_false,bI,dc]at this;exact cr this
  ·rw[if_pos hs]at hA hk;rw[NC]at hk;have RR:(hour:Int)=x.hours:=(by omega);refine aN ?_;refine ai ?_;simp only[seval,hr,bT];refine aD ?_;refine⟨λhc=> ?_,λhc=>by exfalso;simp at hc;omega⟩;refine ak ?_;refine cL ?_;refine iD (4-hour) (λj:Nat=>[(9,iv ((hour+j:Nat):Int))]) (λj=>Gf σ++(qE yv N ir it (ju h hour j n0)++M)) (λj=>True) (λ_ _=>rfl) (by simp only[seval];simp[bw,Wk.refl]) (by rw[aiQ];rfl) (λm _ _=>by simp[qE]) trivial (λb_ dj j pJ hj R hR=> ?_);refine ak ?_;refine aD ?_;refine⟨λhc=> ?_,λhc=> ?_⟩
   ·have fE:j<4-hour:=(by omega);have bb:(0<=(hour:Int)/\(hour:Int)<4)=True:=(by simp;omega);have bj:(0<=(hour:Int)+(j:Int)/\(hour:Int)+(j:Int)<4)=True:=(by simp;omega);have yk:((hour:Int)+(j:Int)).toNat=hour+j:=(by omega);have mE:(ju h hour j n0).length=4:=(by rw[Fe (by omega),h4]);have mF:(U5 iv (ju h hour j n0)).length=4:=(by rw[Tm,mE]);have hw:SE.wrap ((hour:Int)+(j:Int)+1)=(hour:Int)+((j+1:Nat):Int):=(by rw[bG _ (by omega)];push_cast;omega);refine aN ?_;refine ai ?_;simp only[seval,g1,s1,qE,bb,bj,yk,mF,ly (aiP oU (show hour+j<=h.length by omega))];refine⟨by omega,?_⟩;rw[w6 (by omega),Jy (by omega)];refine ai ?_;simp only[seval,hw];exact hR _ ⟨fE,trivial,dn⟩
   ·have:j=4-hour:=(by omega);subst this;have F7:=aiO h4 oU hp;rw[F7];have F6:(cQ pre).length=4:=(by rw[<- F7,Fe (by omega),h4]);have rY:((cQ pre).map iv).length=4:=(by rw[Tm,F6]);have n9:(cQ pre).take (hour+1)=pre:=(by unfold cQ;rw[Tw (by omega),SS (by omega)]);refine cq ?_;refine ai ?_;simp only[seval,g0,g1,qE,rY];rw[SS (i:=4) (l:=(cQ pre).map iv) (by rw[rY];exact SR _)];refine xD (hY.call σ (cQ pre) (qE yv N ir it (cQ pre)++M) _ _ hI (hA _ (by simp)) ?_);have aJ:=hk (cQ pre) F6 n9;cases hf:f σ (cQ pre)with
    |go σ'=>
     rw[hf]at aJ;simp only[dc]at aJ⊢;(try simp only[seval]);refine bf ?_;exact cr aJ
    |stop σ'=>
     rw[hf]at aJ;simp only[dc]at aJ⊢;(try simp only[seval]);refine bf ?_;exact cr aJ
    |bad σ'=>
     rw[hf]at aJ;simp only[dc]at aJ⊢;exact cr aJ
 |succ d ih=>
  intro hour h pre n0 σ M k kp pF h4 oU hb hp hI hA hk;refine bL (rs:=[.tmp 8]) (nt:=61) al_ λhH uF=> ?_;simp only[bt,SX];obtain⟨cN,uW⟩:=abZ oU hp;have KO:=hx.hours;have hpr:=hx.am;have RQ:hour<3:=by omega
  have bT:x.l=[iv x.first,iv x.hours,iv x.am,dP x.seen,aS x.pieces,aS x.aB]:=rfl;have g1:∀(σ:S)(L:List aa),(Gf σ++L)[N+1]?=L[1]?:=λσ L=>hY.get σ L 1;have g2:∀(σ:S)(L:List aa),(Gf σ++L)[N+2]?=L[2]?:=λσ L=>hY.get σ L 2;have g3:∀(σ:S)(L:List aa),(Gf σ++L)[N+3]?=L[3]?:=λσ L=>hY.get σ L 3;have s1:∀(σ:S)(L:List aa) x,(Gf σ++L).set (N+1) x=Gf σ++L.set 1 x:=λσ L x=>hY.set σ L 1 x;rw[nh,cN,uW,VY]at hA hk;refine ak ?_;refine ai ?_;simp only[seval,g2,qE];refine aI ((Qm (x:=x) (h:=h) (n:=n0) hx h4 oU (hr _ _) (by rw[g1];rfl) ?_));(try simp only[seval]);refine aD ?_;refine⟨λhs=> ?_,λhs=> ?_⟩
  ·refine ak ?_;refine bf ?_;have:=hk h h4 hp.symm;rw[hs]at this;simp only[TM,if_false,bI,dc]at this;exact cr this
  ·rw[if_pos hs]at hA hk;have RR:¬(hour:Int)=x.hours:=(by omega);refine aN ?_;refine ai ?_;simp only[seval,hr,bT];refine aD ?_;refine⟨λhc=>by exfalso;exact RR hc,λhc=> ?_⟩;refine aN ?_;refine ai ?_;simp only[seval,hr,bT,bG (x.am+1) (by omega)];generalize hg:(λn:Nat=>if hour+1=1/\n≠bh then[]else nh x bh d (pre++[n0+(n:Int)]))=g at hA hk;refine cL ?_;refine zx (measure λm:Nat×S×List Int=>(x.am.toNat+1)-m.1).wf (λm=>[(37,iv (m.1:Nat))]) (λm=>Gf m.2.1++(qE yv N ir it m.2.2++M)) (λm=>m.1<=x.am.toNat+1/\bI f ((SZ m.1).flatMap g) σ=.go m.2.1/\m.2.2.length=4/\m.2.2.take (hour+1)=pre) (0,σ,h) (λ_ _=>rfl) (by intro p hp;simp at hp;subst hp;exact⟨_,rfl,Wk.refl _⟩) rfl (λ_ _=>by simp[qE,hY.len]) ⟨by omega,rfl,h4,hp.symm⟩ (λb_ dj m au R hR=> ?_);obtain⟨i,τ,hq⟩:=m;obtain⟨hi,bO,Ar,Au⟩:=au;replace hi:i<=x.am.toNat+1:=hi;replace bO:bI f ((SZ i).flatMap g) σ=.go τ:=bO;replace Ar:hq.length=4:=Ar;replace Au:hq.take (hour+1)=pre:=Au;have As:hq[hour]?=some n0:=by
    have h1:(hq.take (hour+1))[hour]?=some n0:=(by rw[Au,hp,Ul,if_pos (by omega)];exact oU);rwa [Ul,if_pos (by omega)]at h1
   refine ak ?_;refine aD ?_;refine⟨λhc=> ?_,λhc=> ?_⟩
   ·have bD:i<x.am.toNat+1:=(by omega);have bU:SE.wrap ((i:Int)+1)=((i+1:Nat):Int):=(by rw[bG _ (by omega)];rfl);have r_:=JG g bD;have tQ:=JH g i;have Cm:I τ:=A1 (A:=A) hY.inv _ σ τ (λa ha=>hA a (by rw[r_];exact Tf _ ha)) hI bO;refine aN ?_;refine ak ?_;have hqm:(U5 iv hq).length=4:=(by rw[Tm,Ar]);have bb:(0<=(hour:Int)/\(hour:Int)<4)=True:=(by simp;omega);have bb1:(0<=(hour:Int)+1/\(hour:Int)+1<4)=True:=(by simp;omega);have pN:((hour:Int)+1).toNat=hour+1:=(by omega);have hwh:SE.wrap ((hour:Int)+1)=(hour:Int)+1:=bG _ (by omega);have LR:SE.wrap (n0+(i:Int))=n0+(i:Int):=bG _ (by omega);refine ai ?_;simp only[seval,ht];refine xR (λh2=> ?ga) (λh2=> ?gb)
    case' ga=>
     (try simp only[seval,ht]);refine aD ?_;refine⟨λh3=> ?gc,λh3=> ?gd⟩
     case gc=>
      have aL:g i=[]:=(by rw[<- hg];exact if_pos ⟨by simp at h2;omega,by omega⟩);refine cq ?_;refine ai ?_;simp only[seval,bU];exact hR _ ⟨(i+1,τ,hq),(by show x.am.toNat+1-(i+1)<x.am.toNat+1-i;omega),⟨by omega,by rw[tQ,aL,SI];exact bO,Ar,Au⟩,dn⟩
    case' gb=>
     (try simp only[seval]);refine aD ?_
    all_goals
     have aL:g i=nh x bh d (pre++[n0+(i:Int)]):=by
      rw[<- hg];refine if_neg ?_
      rintro⟨q1,q2⟩
      first|(simp at h3;omega)|(simp at h2;omega)
     refine aN ?_;refine ai ?_;simp only[seval,g1,s1,qE,bb,bb1,pN,hwh,LR,hqm,ly As];refine⟨by omega,?_⟩;rw[w6 (show hour+1<hq.length by omega)];refine ai ?_;simp only[seval,g3,hwh];have ak7:(hq.set (hour+1) (n0+(i:Int))).length=4:=(by rw[TE,Ar]);have hqt:pre++[n0+(i:Int)]=(hq.set (hour+1) (n0+(i:Int))).take (hour+1+1):=(by rw[NX (by omega),Au]);refine aI ((ih (hour+1) (hq.set (hour+1) (n0+(i:Int))) (pre++[n0+(i:Int)]) (n0+(i:Int)) τ M _ _ (by omega) ak7 (by rw[UP,if_pos rfl,if_pos (by omega)]) (by omega) hqt Cm (λa ha=>hA a (by rw[r_,aL];exact S4 _ (Tf _ ha))) (λh' rI ak6=> ?_)));have Lr:h'.take (hour+1)=pre:=by
      have e:h'.take (hour+1)=(h'.take (hour+1+1)).take (hour+1):=(by rw[UZ];congr 1;omega);rw[e,ak6,Tw (WG cN.symm),SS (WG cN)]
     have AB:bI f ((SZ (x.am.toNat+1)).flatMap g) σ=match bI f (g i) τ with
       |.go s'=>bI f ((Ud (i+1) (x.am.toNat+1-(i+1))).flatMap g) s'
       |r=>r:=by
      rw[r_,qW,bO];exact qW f (g i) _ τ
     rw[<- aL];cases hf:bI f (g i) τ with
     |go τ'=>
      simp only[dc];(try simp only[seval]);refine aD ?_;refine aN ?_;refine ai ?_;simp only[seval,bU];exact hR _ ⟨(i+1,τ',h'),(by show x.am.toNat+1-(i+1)<x.am.toNat+1-i;omega),⟨by omega,by rw[tQ,qW,bO];exact hf,rI,Lr⟩,dn⟩
     |stop τ'=>
      simp only[dc];(try simp only[seval]);refine aD ?_;refine ak ?_;refine bf ?_;have aJ:=hk h' rI Lr;rw[AB,hf]at aJ;exact cr aJ
     |bad τ'=>
      simp only[dc];have aJ:=hk h' rI Lr;rw[AB,hf]at aJ;exact cr aJ
   ·have dF:i=x.am.toNat+1:=(by omega);subst dF;have aJ:=hk hq Ar Au;rw[bO]at aJ;refine cq ?_;refine ak ?_;refine bf ?_;exact cr aJ
theorem vw{P:SJ}{yv pv:AV}{S:Type}{f:S->List Int->dJ S}{Gf:S->List aa}{N:Nat}{I:S->Prop}{A:List Int->Prop}{k:AV->List aa->Prop}(hY:j6 lv P yv f Gf N I A pv){σ σ':S}{L:List aa}{a:AV}(hH:bM (Gf σ))(ha:∀n,Lt n a)(hk:k a (Gf σ')):cK (Gf σ).length (Gf σ'++L) a k:=by
 refine kg (H':=Gf σ') (Wk.refl _) rfl (by rw[hY.len,hY.len];exact SR _) ?_ (ha _) hk;have:=hY.au (σ:=σ) (M:=[]) (by simpa using hH) σ';simpa using this
theorem Jt{H:List aa}{k kp:AV->List aa->Prop}{x:aj}{n:Int}(hk:k (.fn (.func 86) [] [.op H.length 0,.op (H.length+1) 0]) (H++[.cells x.l 76,.cells [iv n] 3])):bk lv SC 64 H [x.av,iv n] k kp:=by
 refine bL (rs:=[.tmp 4]) (nt:=6) Tryz.f64 λhH hA=> ?_;simp only[bt,SX,aj.av];refine ak ?_;refine ai ?_;simp only[seval,T_,UC,Uj,TP];refine bf ?_;exact cr hk
theorem Jv{x:aj}{bh N ir it:Nat}{yv pv:AV}{S:Type}{f:S->List Int->dJ S}{Gf:S->List aa}{I:S->Prop}{A:List Int->Prop}{σ:S}{k kp:AV->List aa->Prop}(hx:x.Ok)(hY:j6 lv SC yv f Gf N I A pv)(hr:∀σ L,(Gf σ++L)[ir]?=some (.cells x.l 76))(ht:∀σ L,(Gf σ++L)[it]?=some (.cells [iv bh] 3))(me:bh<=3)
  (mH:∀n,Lt n pv) (hI:I σ) (hA:∀a∈kZ x bh,A a) (hk:gH Gf pv k kp [] (bI f (kZ x bh) σ)):bk lv SC 86 (Gf σ) [yv,.op ir 0,.op it 0] k kp:=by
 refine bL (rs:=[]) (nt:=15) Tryz.f86 λhH uF=> ?_;simp only[bt,SX];have hN:=hY.len σ;have bT:x.l=[iv x.first,iv x.hours,iv x.am,dP x.seen,aS x.pieces,aS x.aB]:=rfl;refine ai ?_;simp only[seval,hY.parts];refine ak ?_;refine ai ?_;simp only[seval,T_,UC,Uj,TP];refine ak ?_;refine ai ?_;simp only[seval,T_,UC,Uj,TP];refine ai ?_;simp only[seval,hr,bT];refine ak ?_;have h0:=hx.first;have hh:=hx.hours;have Lq:[x.first]=TU (0+1) [x.first,0,0,0]:=rfl;refine aI (?_);rw[hN];refine aiB (x:=x) (bh:=bh) hx hY hr ht me x.hours.toNat 0 [x.first,0,0,0] [x.first] x.first σ [] _ _ rfl rfl rfl (by omega) Lq hI hA (λh' rI Ap=> ?_);change dc Gf pv _ _ _ (bI f (kZ x bh) σ);have so:∀n,Lt n (.aM []):=λn=>by simp[jV]
 cases hf:bI f (kZ x bh) σ with
 |go s=>
  rw[hf]at hk;simp only[dc,gH]at hk⊢;rw[SI]at hk;(try simp only[seval]);rw[<- hN];exact vw hY hH so hk
 |stop s=>
  rw[hf]at hk;simp only[dc,gH]at hk⊢;rw[SI]at hk;(try simp only[seval]);rw[<- hN];exact vw hY hH so hk
 |bad s=>
  rw[hf]at hk;simp only[dc,gH]at hk⊢;rw[SI]at hk;rw[<- hN];exact vw hY hH mH hk
end
theorem PY{α:Type}{l:List α}{i j:Nat}{v:α}(h:i<j):(l.set i v).drop j=l.drop j:=by
 apply Yj;intro k;rw[Up,Up,T7 (by omega)]
theorem zJ{α:Type}{g:α->AV}{xs:List α}{i:Nat}{x:α}(h:xs[i]?=some x):(xs.map g).drop i=g x::(xs.drop (i+1)).map g:=by
 rw[<- ag2,v6 h,UV]
namespace Tk
def adj (k:Nat):List Int:=TG (4-k) (-1)++[-1, -1, -1]
structure pk (h:List Int)(k p:Nat)(t:List Nat)(tc:List Int):Prop where
 len:tc.length=11
 pre:tc.take (4+p)=h++t.map λn:Nat=>(n:Int)
 tl:tc.drop (4+k)=adj k
theorem pk.all{h:List Int}{k:Nat}{t:List Nat}{tc:List Int}(ht:t.length=k)(n:pk h k k t tc):tc=eg h t:=by
 have:=Vd (4+k) tc;rw[n.pre,n.tl]at this;rw[<- this];unfold eg lP adj;rw[ht];simp[SA]
theorem pk.back{h:List Int}{k p:Nat}{t:List Nat}{n:Nat}{tc:List Int}(h4:h.length=4)(ht:t.length=p)(q:pk h k (p+1) (t++[n]) tc):pk h k p t tc:=by
 refine⟨q.len,?_,q.tl⟩;have e:tc.take (4+p)=(tc.take (4+(p+1))).take (4+p):=by rw[UZ];congr 1;omega
 rw[e,q.pre,TN,<- SA,Tw (by simp[h4,ht]),SS (by simp[h4,ht])]
theorem pk.next{h:List Int}{k p:Nat}{t:List Nat}{n:Nat}{tc:List Int}(hp:p<k)(hk:k<=4)(q:pk h k p t tc):pk h k (p+1) (t++[n]) (tc.set (4+p) (n:Int)):=by
 refine⟨by rw[TE];exact q.len,?_,?_⟩
 ·rw[show 4+(p+1)=(4+p)+1 by omega,NX (by rw[q.len];omega),q.pre];simp
 ·rw[PY (by omega)];exact q.tl
theorem anG{h:List Int}{q:Nat}{qs:List Nat}{u:Nat}{t:List Nat}:(lj (q::qs) u t).map (eg h)=(SZ 9).flatMap λn=>if u.testBit n|| !q.testBit n then[]else(lj qs (u|||2^n) (t++[n])).map (eg h):=by
 rw[lj,Vv];congr 1;funext n;split<;>rfl
end Tk
section
variable {lv:Bool}
def tZ (yv:AV)(N ir:Nat)(ps:List Nat)(tc:List Int):List aa:=[.cells [yv] 132,.cells (tc.map iv) 86,.cells (ps.map λn=>wv n) 80,.cells [.fn (.func 107) [] [.op ir 0,.op N 0,.op (N+1) 0,.op (N+2) 0,.op (N+3) 0]] 157]
theorem ahP{x:aj}{h ps N ir:_}{yv pv:AV}{S:Type}{f:S->List Int->dJ S}{Gf:S->List aa}{I:S->Prop}{A:List Int->Prop}(hx:x.Ok)(h4:h.length=4)(hY:j6 lv SC yv f Gf N I A pv)(hr:∀σ L,(Gf σ++L)[ir]?=some (.cells x.l 76))(pP:ps=x.pieces.map (cm h)++TG (4-x.pieces.length) 0):
  ∀(d p u:Nat)(t:List Nat)(tc:List Int)(σ:S)(M:List aa)(k kp:AV->List aa->Prop),d+p=x.pieces.length->u<65536->t.length=p->pk h x.pieces.length p t tc->I σ->(∀a∈(lj ((x.pieces.map (cm h)).drop p) u t).map (eg h),A a)->
   (∀eF,pk h x.pieces.length p t eF->dc Gf pv k kp (tZ yv N ir ps eF++M) (bI f ((lj ((x.pieces.map (cm h)).drop p) u t).map (eg h)) σ))->
   bk lv SC 107 (Gf σ++(tZ yv N ir ps tc++M)) [iv p,wv u,.op ir 0,.op N 0,.op (N+1) 0,.op (N+2) 0,.op (N+3) 0] k kp:=by
 intro d;induction d with
 |zero=>
  intro p u t tc σ M k kp Ku hu ht hT hI hA hk;refine bL (rs:=[.tmp 9]) (nt:=47) ag' λhH uF=> ?_;simp only[bt,SX];have bT:x.l=[iv x.first,iv x.hours,iv x.am,dP x.seen,aS x.pieces,aS x.aB]:=rfl;have g0:∀(σ:S)(L:List aa),(Gf σ++L)[N]?=L[0]?:=λσ L=>hY.get σ L 0;have g1:∀(σ:S)(L:List aa),(Gf σ++L)[N+1]?=L[1]?:=λσ L=>hY.get σ L 1;have cN:p=x.pieces.length:=by omega
  have wn:(x.pieces.map (cm h)).drop p=[]:=TW (by simp;omega);rw[wn,lj]at hA hk;rw[Y8]at hA hk;rw[NC]at hk;have yr:tc=eg h t:=by subst cN;exact hT.all ht
  have kD:(tc.map iv).length=11:=by rw[Tm,hT.len]
  refine ak ?_;(repeat apply iY);refine O8 ?_;refine ai ?_;simp only[seval,hr,bT,aS];refine aD ?_;refine⟨λhc=> ?_,λhc=>by exfalso;simp at hc;omega⟩;refine ai ?_;simp only[seval,g0,g1,tZ,kD];rw[SS (i:=11) (l:=tc.map iv) (by rw[kD];exact SR _)];rw[<- yr]at hA hk;have aJ:=hk tc hT;refine xD (hY.call σ tc (tZ yv N ir ps tc++M) _ _ hI (hA _ (by simp)) ?_);cases hf:f σ tc with
  |go σ'=>
   rw[hf]at aJ;simp only[dc]at aJ⊢;(try simp only[seval]);refine bf ?_;exact cr aJ
  |stop σ'=>
   rw[hf]at aJ;simp only[dc]at aJ⊢;(try simp only[seval]);refine bf ?_;exact cr aJ
  |bad σ'=>
   rw[hf]at aJ;simp only[dc]at aJ⊢;exact cr aJ
 |succ d ih=>
  intro p u t tc σ M k kp Ku hu ht hT hI hA hk;refine bL (rs:=[.tmp 9]) (nt:=47) ag' λhH uF=> ?_;simp only[bt,SX];have bT:x.l=[iv x.first,iv x.hours,iv x.am,dP x.seen,aS x.pieces,aS x.aB]:=rfl;have g1:∀(σ:S)(L:List aa),(Gf σ++L)[N+1]?=L[1]?:=λσ L=>hY.get σ L 1;have g2:∀(σ:S)(L:List aa),(Gf σ++L)[N+2]?=L[2]?:=λσ L=>hY.get σ L 2;have g3:∀(σ:S)(L:List aa),(Gf σ++L)[N+3]?=L[3]?:=λσ L=>hY.get σ L 3;have s1:∀(σ:S)(L:List aa) x,(Gf σ++L).set (N+1) x=Gf σ++L.set 1 x:=λσ L x=>hY.set σ L 1 x;have oV:=hx.eN;have F6:p<4:=by omega
  obtain⟨y,hy⟩:=cD (xs:=x.pieces) (i:=p) (by omega);have va:(x.pieces.map (cm h))[p]?=some (cm h y):=by rw[Tn,hy];rfl
  have jy:ps[p]?=some (cm h y):=by rw[pP,SY (by simp;omega)];exact va
  have mI:cm h y<65536:=Wn (Qt h y) (by decide);have aG:¬(p:Int)=(x.pieces.length:Int):=by omega
  rw[v6 va,anG]at hA hk;generalize hg:(λn=>if u.testBit n|| !(cm h y).testBit n then[]else(lj ((x.pieces.map (cm h)).drop (p+1)) (u|||2^n) (t++[n])).map (eg h))=g at hA hk;refine ak ?_;(repeat apply iY);refine O8 ?_;refine ai ?_;simp only[seval,hr,bT,aS];refine aD ?_;refine⟨λhc=>by exfalso;exact aG (by simpa using hc),λhc=> ?_⟩;refine aN ?_;(repeat apply iY);refine O1 ?_;simp only[seval];refine ak ?_;refine cL ?_;refine zx (measure λm:Nat×S×List Int=>9-m.1).wf (λm=>[(20,iv (m.1:Nat))]) (λm=>Gf m.2.1++(tZ yv N ir ps m.2.2++M)) (λm=>m.1<=9/\bI f ((SZ m.1).flatMap g) σ=.go m.2.1/\pk h x.pieces.length p t m.2.2) (0,σ,tc) (λ_ _=>rfl) (by intro p hp;simp at hp;subst hp;exact⟨_,rfl,Wk.refl _⟩) rfl (λ_ _=>by simp[tZ,hY.len]) ⟨by omega,rfl,hT⟩ (λb_ dj m au R hR=> ?_);obtain⟨i,τ,tq⟩:=m;obtain⟨hi,bO,l5⟩:=au;replace hi:i<=9:=hi;replace bO:bI f ((SZ i).flatMap g) σ=.go τ:=bO;replace l5:pk h x.pieces.length p t tq:=l5;refine ak ?_;refine aD ?_;refine⟨λhc=> ?_,λhc=> ?_⟩
  ·have bD:i<9:=(by omega);have bU:SE.wrap ((i:Int)+1)=((i+1:Nat):Int):=(by rw[bG _ (by omega)];rfl);have r_:=JG g bD;have tQ:=JH g i;have Cm:I τ:=A1 (A:=A) hY.inv _ σ τ (λa ha=>hA a (by rw[r_];exact Tf _ ha)) hI bO;have b4:(0<=(p:Int)/\(p:Int)<4)=True:=(by simp;omega);have D1:(u.testBit i|| !(cm h y).testBit i)=true->g i=[]:=λe=>(by rw[<- hg];exact if_pos e);have JO:(u.testBit i|| !(cm h y).testBit i)=false->g i=(lj ((x.pieces.map (cm h)).drop (p+1)) (u|||2^i) (t++[i])).map (eg h):=λe=>(by rw[<- hg];exact if_neg (by rw[e];simp));refine aN ?_;refine ak ?_;refine ai ?_;simp only[seval,g2,tZ,b4,zJ jy];refine aI ((xL hu ?_));(try simp only[seval,g2,tZ,b4,zJ jy]);refine xR (λh2=> ?_) (λh2=> ?_)
   ·(try simp only[seval,g2,tZ,b4,zJ jy]);refine aI ((xL mI ?_));(try simp only[seval]);refine aD ?_;refine⟨λh3=> ?_,λh3=> ?_⟩
    ·have aL:=D1 (by rw[h2];simpa using h3);refine cq ?_;refine ai ?_;simp only[seval,bU];exact hR _ ⟨(i+1,τ,tq),(by show 9-(i+1)<9-i;omega),⟨by omega,by rw[tQ,aL,SI];exact bO,l5⟩,dn⟩
    ·have aL:=JO (by rw[h2];simpa using h3);have kD:(tq.map iv).length=11:=(by rw[Tm,l5.len]);have IG:4+p<tq.length:=(by rw[l5.len];omega);have Gq:SE.wrap ((p:Int)+1)=((p+1:Nat):Int):=(by rw[bG _ (by omega)];rfl);refine aN ?_;refine ai ?_;simp only[seval,g1,s1,tZ,b4];refine⟨by omega,?_⟩;rw[w6 IG];refine eU 6 ?_;simp only[seval,g3,Gq];refine iU (wv (u|||2^i)) (bX (uD hu (show i<16 by omega) ⟨rfl,rfl⟩)) ?_;rw[Gq];have ku:u|||2^i<65536:=p_ hu (xa (by omega));refine aI ((ih (p+1) (u|||2^i) (t++[i]) (tq.set (4+p) (i:Int)) τ M _ _ (by omega) ku (by simp[ht]) (l5.next (by omega) oV) Cm (λa ha=>hA a (by rw[r_,aL];exact S4 _ (Tf _ ha))) (λeF tr=> ?_)));have Cp:=tr.back h4 ht;have AB:bI f ((SZ 9).flatMap g) σ=match bI f (g i) τ with
       |.go s'=>bI f ((Ud (i+1) (9-(i+1))).flatMap g) s'
       |r=>r:=by
      rw[r_,qW,bO];exact qW f (g i) _ τ
     rw[<- aL];have aJ:=hk eF Cp;rw[AB]at aJ;cases hf:bI f (g i) τ with
     |go τ'=>
      simp only[dc];(try simp only[seval]);refine aD ?_;refine aN ?_;refine ai ?_;simp only[seval,bU];exact hR _ ⟨(i+1,τ',eF),(by show 9-(i+1)<9-i;omega),⟨by omega,by rw[tQ,qW,bO];exact hf,Cp⟩,dn⟩
     |stop τ'=>
      rw[hf]at aJ;simp only[dc]at aJ⊢;(try simp only[seval]);refine aD ?_;refine ak ?_;refine bf ?_;exact cr aJ
     |bad τ'=>
      rw[hf]at aJ;simp only[dc]at aJ⊢;exact cr aJ
   ·(try simp only[seval]);refine aD ?_;have aL:=D1 (by rw[show u.testBit i=true by simpa using h2];rfl);refine cq ?_;refine ai ?_;simp only[seval,bU];exact hR _ ⟨(i+1,τ,tq),(by show 9-(i+1)<9-i;omega),⟨by omega,by rw[tQ,aL,SI];exact bO,l5⟩,dn⟩
  ·have dF:i=9:=(by omega);subst dF;have aJ:=hk tq l5;rw[bO]at aJ;refine cq ?_;refine ak ?_;refine bf ?_;exact cr aJ
end
open Go.Conc Go.Proofs Go.Gg.Tk
theorem NL{α:Type}{g:α->AV}{xs:List α}{i:Nat}{y:α}(h:i<xs.length):(xs.map g).take i++[g y]++(xs.map g).drop (i+1)=(xs.set i y).map g:=by
 rw[List.map_set,XL,if_pos (by simpa using h)];simp
namespace Tk
def qq (l:List Nat)(i:Nat):List Nat:=l.take i++TG (4-i) 0
theorem af6{l:List Nat}{i q:Nat}(h:l[i]?=some q)(hl:l.length<=4):(qq l i).set i q=qq l (i+1):=by
 have hi:=e_ h;unfold qq;rw[T9 _ _ (by simp;omega),show i-(l.take i).length=0 by simp;omega,show 4-i=(4-(i+1))+1 by omega,Wt,T4,Wx,h];simp
theorem af5{l:List Nat}{i:Nat}(hi:i<=l.length)(hl:l.length<=4):(qq l i).length=4:=by simp[qq];omega
theorem af4{l:List Nat}:qq l l.length=l++TG (4-l.length) 0:=by simp[qq]
end Tk
theorem Sw{H L:List aa}{c c':aa}(h:bM (H++(L++[c])))(hc:∀n,fh n c'):bM (H++(L++[c'])):=λz hz=>by
 have hl:(H++(L++[c'])).length=(H++(L++[c])).length:=by simp
 rw[hl];rcases SV.1 hz with h'|h'
 ·exact h z (Tf _ h')
 ·rcases SV.1 h' with h'|h'
  ·exact h z (S4 _ (Tf _ h'))
  ·rw[S9.1 h'];exact hc _
theorem abH(l:List Nat)(t n:Nat):fh n (.cells (l.map λn=>wv n) t):=by
 intro a ha;obtain⟨x,_,rfl⟩:=Tl.1 ha;exact .val _
theorem anU(l:List Int)(t n:Nat):fh n (.cells (l.map iv) t):=by
 intro a ha;obtain⟨x,_,rfl⟩:=Tl.1 ha;exact .val _
section
variable {lv:Bool}
theorem aiC{H:List aa}{k kp:AV->List aa->Prop}{x:aj}{h:List Int}(hk:k (.fn (.func 106) [] [.op (H.length+1) 0,.op H.length 0]) (H++[.cells x.l 76,.cells (h.map iv) 83])):bk lv SC 92 H [x.av,.agg (h.map iv)] k kp:=by
 refine bL (rs:=[.tmp 4]) (nt:=6) Tryz.f92 λhH hA=> ?_;simp only[bt,SX,aj.av];refine ak ?_;refine ai ?_;simp only[seval,T_,UC,Uj,TP];refine bf ?_;exact cr hk
theorem ahO{x:aj}{h:List Int}{N ir ih:Nat}{yv pv:AV}{S:Type}{f:S->List Int->dJ S}{Gf:S->List aa}{I:S->Prop}{A:List Int->Prop}{σ:S}{k kp:AV->List aa->Prop}(hx:x.Ok)(hh:mY h)(hY:j6 lv SC yv f Gf N I A pv)(hr:∀σ L,(Gf σ++L)[ir]?=some (.cells x.l 76))(hi:∀σ L,(Gf σ++L)[ih]?=some (.cells (h.map iv) 83))
  (mH:∀n,Lt n pv) (hI:I σ) (hA:∀a∈(gD x h).map (eg h),A a) (hk:gH Gf pv k kp [] (bI f ((gD x h).map (eg h)) σ)):bk lv SC 106 (Gf σ) [yv,.op ih 0,.op ir 0] k kp:=by
 refine bL (rs:=[]) (nt:=45) Tryz.f106 λhH uF=> ?_;simp only[bt,SX];have hN:=hY.len σ;have oV:=hx.eN;have bT:x.l=[iv x.first,iv x.hours,iv x.am,dP x.seen,aS x.pieces,aS x.aB]:=rfl;obtain⟨a,b,c,d,rfl,ha,hb,hc,hd,hs⟩:=hh.out;have okH:∀L:List aa,(∀z∈L,∀n,fh n z)->bM (Gf σ++L):=λL hL z hz=>by
  rcases SV.1 hz with h|h
  ·exact(hH z h).mono (by simp)
  ·exact hL z h _
 refine ai ?_;simp only[seval,hY.parts];refine ai ?_;simp only[seval,hi];refine ak ?_;refine cL ?_;refine iD 4 (λi:Nat=>[(13,iv i)]) (λi=>Gf σ++[.cells [yv] 132,.cells ((ju [a,b,c,d,0,0,0,0,0,0,0] 4 i (-1)).map iv) 86]) (λi=>True) (λ_ _=>rfl) (by simp only[seval];simp[bw,Wk.refl]) rfl (λ_ _ _=>by simp) trivial (λb_ dj i cV _ R hR=> ?_);refine ak ?_;refine aD ?_;refine⟨λhc=> ?_,λhc=> ?_⟩
 ·have bD:i<4:=by omega
  have b4:(0<=(i:Int)/\(i:Int)<4)=True:=by simp;omega
  have bU:SE.wrap ((i:Int)+1)=((i+1:Nat):Int):=by rw[bG _ (by omega)];rfl
  have mE:(ju [a,b,c,d,0,0,0,0,0,0,0] 4 i (-1)).length=11:=Fe (by show 4+i<=11;omega);have mF:((ju [a,b,c,d,0,0,0,0,0,0,0] 4 i (-1)).map iv).length=11:=by rw[Tm,mE]
  refine aN ?_;refine ak ?_;refine ai ?_;simp only[seval,b4,mF];refine⟨by omega,?_⟩;rw[w6 (show 4+i<(ju [a,b,c,d,0,0,0,0,0,0,0] 4 i (-1)).length by omega),Jy (by show 4+i<11;omega)];refine ai ?_;simp only[seval,bU];exact hR _ ⟨bD,trivial,dn⟩
 have:i=4:=by omega
 subst this;clear hc cV;refine cq ?_;refine ak ?_;rw[show ju [a,b,c,d,0,0,0,0,0,0,0] 4 4 (-1)=[a,b,c,d, -1, -1, -1, -1,0,0,0]from rfl];refine cL ?_;refine iD 3 (λi:Nat=>[(20,iv i)]) (λi=>Gf σ++[.cells [yv] 132,.cells ((ju [a,b,c,d, -1, -1, -1, -1,0,0,0] 8 i (-1)).map iv) 86]) (λi=>True) (λ_ _=>rfl) (by simp only[seval];simp[bw,Wk.refl]) rfl (λ_ _ _=>by simp) trivial (λb_ dj i cV _ R hR=> ?_);refine ak ?_;refine aD ?_;refine⟨λhc=> ?_,λhc=> ?_⟩
 ·have bD:i<3:=by omega
  have b4:(0<=(i:Int)/\(i:Int)<3)=True:=by simp;omega
  have bU:SE.wrap ((i:Int)+1)=((i+1:Nat):Int):=by rw[bG _ (by omega)];rfl
  have mE:(ju [a,b,c,d, -1, -1, -1, -1,0,0,0] 8 i (-1)).length=11:=Fe (by show 8+i<=11;omega);have mF:((ju [a,b,c,d, -1, -1, -1, -1,0,0,0] 8 i (-1)).map iv).length=11:=by rw[Tm,mE]
  refine aN ?_;refine ak ?_;refine ai ?_;simp only[seval,b4,mF];refine⟨by omega,?_⟩;rw[w6 (show 8+i<(ju [a,b,c,d, -1, -1, -1, -1,0,0,0] 8 i (-1)).length by omega),Jy (by show 8+i<11;omega)];refine ai ?_;simp only[seval,bU];exact hR _ ⟨bD,trivial,dn⟩
 have:i=3:=by omega
 subst this;clear hc cV;refine cq ?_;rw[show ju [a,b,c,d, -1, -1, -1, -1,0,0,0] 8 3 (-1)=[a,b,c,d, -1, -1, -1, -1, -1, -1, -1]from rfl];refine ak ?_;refine ai ?_;simp only[seval,hr,bT,aS];refine cL ?_;refine iD x.pieces.length (λi:Nat=>[(31,iv i)]) (λi=>Gf σ++[.cells [yv] 132,.cells ([a,b,c,d, -1, -1, -1, -1, -1, -1, -1].map iv) 86,.cells ((qq (x.pieces.map (cm [a,b,c,d])) i).map λn=>wv n) 80]) (λi=>True) (λ_ _=>rfl) (by simp only[seval];simp[bw,Wk.refl]) rfl (λ_ _ _=>by simp) trivial (λb_ dj i cV _ R hR=> ?_);refine ak ?_;refine aD ?_;refine⟨λhc=> ?_,λhc=> ?_⟩
 ·have bD:i<x.pieces.length:=by omega
  obtain⟨y,hy⟩:=cD bD;have va:(x.pieces.map (cm [a,b,c,d]))[i]?=some (cm [a,b,c,d] y):=by rw[Tn,hy];rfl
  have b4:(0<=(i:Int)/\(i:Int)<4)=True:=by simp;omega
  have bU:SE.wrap ((i:Int)+1)=((i+1:Nat):Int):=by rw[bG _ (by omega)];rfl
  have cT:(qq (x.pieces.map (cm [a,b,c,d])) i).length=4:=af5 (by simp;omega) (by simpa using oV);have wl:((qq (x.pieces.map (cm [a,b,c,d])) i).map λn=>wv n).length=4:=by rw[Tm,cT]
  refine aN ?_;refine ai ?_;simp only[seval,DY hy,j8 bD];refine ai ?_;simp only[seval,hi,b4];refine aI ((Fc (h:=[a,b,c,d]) (y:=y) hh ?_));(try simp only[seval,b4,wl]);refine⟨by omega,?_⟩;rw[NL (g:=λn=>wv n) (show i<(qq (x.pieces.map (cm [a,b,c,d])) i).length by omega),af6 va (by simpa using oV)];refine ai ?_;simp only[seval,bU];exact hR _ ⟨bD,trivial,A0 (qS rfl rfl) (by simp only[seval];simp[bw,Wk.refl]) (Sw (L:=[_,_]) b_ (abH _ _)) (by simp[fe])⟩
 have:i=x.pieces.length:=by omega
 subst this;clear hc cV;refine cq ?_;refine ak ?_;refine ai ?_;simp only[seval,T_,UC,Uj,TP];refine ak ?_;have pP:qq (x.pieces.map (cm [a,b,c,d])) x.pieces.length=x.pieces.map (cm [a,b,c,d])++TG (4-x.pieces.length) 0:=by
  have:=af4 (l:=x.pieces.map (cm [a,b,c,d]));simpa using this
 refine aI (?_);rw[hN];have so:∀n,Lt n (.aM []):=λn=>by simp[jV]
 have hT0:∀eF,pk [a,b,c,d] x.pieces.length 0 [] eF->True:=λ_ _=>trivial;refine ahP (x:=x) (h:=[a,b,c,d]) hx rfl hY hr pP x.pieces.length 0 0 [] [a,b,c,d, -1, -1, -1, -1, -1, -1, -1] σ [] _ _ rfl (by decide) rfl ⟨rfl,rfl,?_⟩ hI hA (λeF tr=> ?_)
 ·have:x.pieces.length=0\/x.pieces.length=1\/x.pieces.length=2\/x.pieces.length=3\/x.pieces.length=4:=by omega
  rcases this with e|e|e|e|e<;>rw[e]<;>rfl
 change dc Gf pv _ _ _ (bI f ((gD x [a,b,c,d]).map (eg [a,b,c,d])) σ);cases hf:bI f ((gD x [a,b,c,d]).map (eg [a,b,c,d])) σ with
 |go s=>
  rw[hf]at hk;simp only[dc,gH]at hk⊢;rw[SI]at hk;(try simp only[seval]);rw[<- hN];exact vw hY hH so hk
 |stop s=>
  rw[hf]at hk;simp only[dc,gH]at hk⊢;rw[SI]at hk;(try simp only[seval]);rw[<- hN];exact vw hY hH so hk
 |bad s=>
  rw[hf]at hk;simp only[dc,gH]at hk⊢;rw[SI]at hk;rw[<- hN];exact vw hY hH mH hk
end
open Go.Conc Go.Proofs Go.Gg.Tk
namespace Tk
structure oB (h:List Int)(ns:List Nat)(k s:Nat)(o:List Nat)(tc:List Int):Prop where
 len:tc.length=11
 pre:tc.take (8+s)=h++lP 4 ns++o.map λn:Nat=>(n:Int)
 tl:tc.drop (8+k)=TG (3-k) (-1)
theorem oB.all{h:List Int}{ns:List Nat}{k:Nat}{o:List Nat}{tc:List Int}(ho:o.length=k)(n:oB h ns k k o tc):tc=dH h ns o:=by
 have:=Vd (8+k) tc;rw[n.pre,n.tl]at this;rw[<- this];unfold dH
 conv=>rhs;unfold lP
 rw[ho,SA];rfl
theorem AW{k:Nat}{l:List Nat}(h:l.length<=k):(lP k l).length=k:=by simp[lP];omega
theorem oB.back{h:List Int}{ns:List Nat}{k s:Nat}{o:List Nat}{n:Nat}{tc:List Int}(h4:h.length=4)(hn:ns.length<=4)(ho:o.length=s)(q:oB h ns k (s+1) (o++[n]) tc):oB h ns k s o tc:=by
 refine⟨q.len,?_,q.tl⟩;have e:tc.take (8+s)=(tc.take (8+(s+1))).take (8+s):=by rw[UZ];congr 1;omega
 have hp:=AW hn;rw[e,q.pre,TN,<- SA,Tw (by simp[h4,ho,hp];omega),SS (by simp[h4,ho,hp];omega)]
theorem oB.next{h:List Int}{ns:List Nat}{k s:Nat}{o:List Nat}{n:Nat}{tc:List Int}(hp:s<k)(hk:k<=3)(q:oB h ns k s o tc):oB h ns k (s+1) (o++[n]) (tc.set (8+s) (n:Int)):=by
 refine⟨by rw[TE];exact q.len,?_,?_⟩
 ·rw[show 8+(s+1)=(8+s)+1 by omega,NX (by rw[q.len];omega),q.pre];simp
 ·rw[PY (by omega)];exact q.tl
theorem oB.num{h:List Int}{ns:List Nat}{k s p:Nat}{o:List Nat}{tc:List Int}(h4:h.length=4)(hn:ns.length<=4)(hp:p<ns.length)(q:oB h ns k s o tc):tc[4+p]?=some ((ns.getD p 0:Nat):Int):=by
 have h1:(tc.take (8+s))[4+p]?=some ((ns.getD p 0:Nat):Int):=by
  rw[q.pre,SA,S8 (by omega),h4,show 4+p-4=p by omega,SY (by rw[AW hn];omega)];unfold lP;rw[SY (by simpa using hp),Tn,SD,SO hp];rfl
 rwa [Ul,if_pos (by omega)]at h1
theorem an7{h:List Int}{ns:List Nat}{k q:Nat}{qs:List Nat}{u:Nat}{o:List Nat}:(mR k ns (q::qs) u o).map (dH h ns)=(SZ k).flatMap λp=>if u.testBit p|| !q.testBit (ns.getD p 0)then[]else(mR k ns qs (u|||2^p) (o++[p])).map (dH h ns):=by
 rw[mR,Vv];congr 1;funext n;split<;>rfl
end Tk
open Go.Conc Go.Proofs Go.Gg.Tk
section
variable {lv:Bool}
def yO (yv:AV)(N ir it is:Nat):List aa:=[.cells [yv] 132,.cells [.fn (.func 109) [] [.op ir 0,.op N 0,.op it 0,.op is 0,.op (N+1) 0]] 157]
theorem ahR{x:aj}{h:List Int}{ns qs:List Nat}{N ir it is:Nat}{yv pv:AV}{S:Type}{f:S->List Int->dJ S}{Gf:List Int->S->List aa}{I:S->Prop}{A:List Int->Prop}(hx:x.Ok)(h4:h.length=4)(iR:ns.length=x.pieces.length)(hY:∀tc,j6 lv SC yv f (Gf tc) N I A pv)(hr:∀tc σ L,(Gf tc σ++L)[ir]?=some (.cells x.l 76))
  (ht:∀tc σ L,(Gf tc σ++L)[it]?=some (.cells (tc.map iv) 86)) (dG:∀tc eF σ L,(Gf tc σ++L).set it (.cells (eF.map iv) 86)=Gf eF σ++L) (hs:∀tc σ L,(Gf tc σ++L)[is]?=some (.cells (qs.map λn=>wv n) 81)) (Av:∃r,qs=x.aB.map (cm h)++r) (ym:qs.length=3):
  ∀(d s u:Nat)(o:List Nat)(tc:List Int)(σ:S)(M:List aa)(k kp:AV->List aa->Prop),d+s=x.aB.length->u<65536->o.length=s->oB h ns x.aB.length s o tc->I σ->(∀a∈(mR x.pieces.length ns ((x.aB.map (cm h)).drop s) u o).map (dH h ns),A a)->
   (∀eF,oB h ns x.aB.length s o eF->dc (Gf eF) pv k kp (yO yv N ir it is++M) (bI f ((mR x.pieces.length ns ((x.aB.map (cm h)).drop s) u o).map (dH h ns)) σ))->
   bk lv SC 109 (Gf tc σ++(yO yv N ir it is++M)) [iv s,wv u,.op ir 0,.op N 0,.op it 0,.op is 0,.op (N+1) 0] k kp:=by
 intro d;induction d with
 |zero=>
  intro s u o tc σ M k kp pG hu ho hT hI hA hk;refine bL (rs:=[.tmp 9]) (nt:=54) ag_ λhH uF=> ?_;simp only[bt,SX];have bT:x.l=[iv x.first,iv x.hours,iv x.am,dP x.seen,aS x.pieces,aS x.aB]:=rfl;have g0:∀(tc:List Int)(σ:S)(L:List aa),(Gf tc σ++L)[N]?=L[0]?:=λtc σ L=>(hY tc).get σ L 0;have cN:s=x.aB.length:=by omega
  have wn:(x.aB.map (cm h)).drop s=[]:=TW (by simp;omega);rw[wn,mR]at hA hk;rw[Y8]at hA hk;rw[NC]at hk;have yr:tc=dH h ns o:=by subst cN;exact hT.all ho
  have kD:(tc.map iv).length=11:=by rw[Tm,hT.len]
  refine ak ?_;refine ai ?_;simp only[seval,hr,bT,aS];refine aD ?_;refine⟨λhc=> ?_,λhc=>by exfalso;simp at hc;omega⟩;refine ai ?_;simp only[seval,g0,ht,yO,kD];rw[SS (i:=11) (l:=tc.map iv) (by rw[kD];exact SR _)];rw[<- yr]at hA hk;have aJ:=hk tc hT;refine xD ((hY tc).call σ tc (yO yv N ir it is++M) _ _ hI (hA _ (by simp)) ?_);cases hf:f σ tc with
  |go σ'=>
   rw[hf]at aJ;simp only[dc]at aJ⊢;(try simp only[seval]);refine bf ?_;exact cr aJ
  |stop σ'=>
   rw[hf]at aJ;simp only[dc]at aJ⊢;(try simp only[seval]);refine bf ?_;exact cr aJ
  |bad σ'=>
   rw[hf]at aJ;simp only[dc]at aJ⊢;exact cr aJ
 |succ d ihd=>
  intro s u o tc σ M k kp pG hu ho hT hI hA hk;refine bL (rs:=[.tmp 9]) (nt:=54) ag_ λhH uF=> ?_;simp only[bt,SX];have bT:x.l=[iv x.first,iv x.hours,iv x.am,dP x.seen,aS x.pieces,aS x.aB]:=rfl;have g1:∀(tc:List Int)(σ:S)(L:List aa),(Gf tc σ++L)[N+1]?=L[1]?:=λtc σ L=>(hY tc).get σ L 1;have oV:=hx.eN;have yo:=hx.dx;obtain⟨y,hy⟩:=cD (xs:=x.aB) (i:=s) (by omega);have va:(x.aB.map (cm h))[s]?=some (cm h y):=by rw[Tn,hy];rfl
  have jy:qs[s]?=some (cm h y):=by obtain⟨r,e⟩:=Av;rw[e,SY (by simp;omega)];exact va
  have mI:cm h y<65536:=Wn (Qt h y) (by decide);have aG:¬(s:Int)=(x.aB.length:Int):=by omega
  rw[v6 va,an7]at hA hk;generalize hg:(λp=>if u.testBit p|| !(cm h y).testBit (ns.getD p 0)then[]else(mR x.pieces.length ns ((x.aB.map (cm h)).drop (s+1)) (u|||2^p) (o++[p])).map (dH h ns))=g at hA hk;refine ak ?_;refine ai ?_;simp only[seval,hr,bT,aS];refine aD ?_;refine⟨λhc=>by exfalso;exact aG (by simpa using hc),λhc=> ?_⟩;refine aN ?_;refine ai ?_;simp only[seval,hr,bT,aS];refine cL ?_;refine zx (measure λm:Nat×S×List Int=>x.pieces.length-m.1).wf (λm=>[(24,iv (m.1:Nat))]) (λm=>Gf m.2.2 m.2.1++(yO yv N ir it is++M)) (λm=>m.1<=x.pieces.length/\bI f ((SZ m.1).flatMap g) σ=.go m.2.1/\oB h ns x.aB.length s o m.2.2) (0,σ,tc) (λ_ _=>rfl) (by intro p hp;simp at hp;subst hp;exact⟨_,rfl,Wk.refl _⟩) rfl (λ_ _=>by simp[yO,(hY _).len]) ⟨by omega,rfl,hT⟩ (λb_ dj m au R hR=> ?_);obtain⟨i,τ,tq⟩:=m;obtain⟨hi,bO,l5⟩:=au;replace hi:i<=x.pieces.length:=hi;replace bO:bI f ((SZ i).flatMap g) σ=.go τ:=bO;replace l5:oB h ns x.aB.length s o tq:=l5;refine ak ?_;refine aD ?_;refine⟨λhc=> ?_,λhc=> ?_⟩
  ·have bD:i<x.pieces.length:=(by omega);have bU:SE.wrap ((i:Int)+1)=((i+1:Nat):Int):=(by rw[bG _ (by omega)];rfl);have hws:SE.wrap ((s:Int)+1)=((s+1:Nat):Int):=(by rw[bG _ (by omega)];rfl);have r_:=JG g bD;have tQ:=JH g i;have Cm:I τ:=A1 (A:=A) (hY tc).inv _ σ τ (λa ha=>hA a (by rw[r_];exact Tf _ ha)) hI bO;have b3:(0<=(s:Int)/\(s:Int)<3)=True:=(by simp;omega);have b4:(0<=(i:Int)/\(i:Int)<4)=True:=(by simp;omega);have D1:(u.testBit i|| !(cm h y).testBit (ns.getD i 0))=true->g i=[]:=λe=>(by rw[<- hg];exact if_pos e);have JO:(u.testBit i|| !(cm h y).testBit (ns.getD i 0))=false->g i=(mR x.pieces.length ns ((x.aB.map (cm h)).drop (s+1)) (u|||2^i) (o++[i])).map (dH h ns):=λe=>(by rw[<- hg];exact if_neg (by rw[e];simp));have Su:=l5.num h4 (by omega) (show i<ns.length by omega);refine aN ?_;refine ak ?_;refine eU 14 ?_;simp only[seval,ht,hs,b3,b4,zJ jy,ly Su];refine iU (bv (u.testBit i)) (bX (xL hu ⟨rfl,rfl⟩)) ?_;(try simp only[seval]);refine xR (λh2=> ?_) (λh2=> ?_)
   ·(try simp only[seval,ht,hs,b3,b4,zJ jy,ly Su]);refine iU (bv ((cm h y).testBit (ns.getD i 0))) (bX (xL mI ⟨rfl,rfl⟩)) ?_;(try simp only[seval]);refine aD ?_;refine⟨λh3=> ?_,λh3=> ?_⟩
    ·have aL:=D1 (by rw[h2];simpa using h3);refine cq ?_;refine ai ?_;simp only[seval,bU];exact hR _ ⟨(i+1,τ,tq),(by show x.pieces.length-(i+1)<x.pieces.length-i;omega),⟨by omega,by rw[tQ,aL,SI];exact bO,l5⟩,dn⟩
    ·have aL:=JO (by rw[h2];simpa using h3);have kD:(tq.map iv).length=11:=(by rw[Tm,l5.len]);have IG:8+s<tq.length:=(by rw[l5.len];omega);refine aN ?_;refine ai ?_;simp only[seval,ht,b3,kD];refine⟨by omega,?_⟩;rw[w6 IG,dG];refine eU 6 ?_;simp only[seval,g1,yO];refine iU (wv (u|||2^i)) (bX (uD hu (show i<16 by omega) ⟨rfl,rfl⟩)) ?_;rw[hws];have ku:u|||2^i<65536:=p_ hu (xa (by omega));refine aI ((ihd (s+1) (u|||2^i) (o++[i]) (tq.set (8+s) (i:Int)) τ M _ _ (by omega) ku (by simp[ho]) (l5.next (by omega) yo) Cm (λa ha=>hA a (by rw[r_,aL];exact S4 _ (Tf _ ha))) (λeF tr=> ?_)));have Cp:=tr.back h4 (by omega) ho;have AB:bI f ((SZ x.pieces.length).flatMap g) σ=match bI f (g i) τ with
       |.go s'=>bI f ((Ud (i+1) (x.pieces.length-(i+1))).flatMap g) s'
       |r=>r:=by
      rw[r_,qW,bO];exact qW f (g i) _ τ
     rw[<- aL];have aJ:=hk eF Cp;rw[AB]at aJ;cases hf:bI f (g i) τ with
     |go τ'=>
      simp only[dc];(try simp only[seval]);refine aD ?_;refine aN ?_;refine ai ?_;simp only[seval,bU];exact hR _ ⟨(i+1,τ',eF),(by show x.pieces.length-(i+1)<x.pieces.length-i;omega),⟨by omega,by rw[tQ,qW,bO];exact hf,Cp⟩,dn⟩
     |stop τ'=>
      rw[hf]at aJ;simp only[dc]at aJ⊢;(try simp only[seval]);refine aD ?_;refine ak ?_;refine bf ?_;exact cr aJ
     |bad τ'=>
      rw[hf]at aJ;simp only[dc]at aJ⊢;exact cr aJ
   ·(try simp only[seval]);refine aD ?_;have aL:=D1 (by rw[show u.testBit i=true by simpa using h2];rfl);refine cq ?_;refine ai ?_;simp only[seval,bU];exact hR _ ⟨(i+1,τ,tq),(by show x.pieces.length-(i+1)<x.pieces.length-i;omega),⟨by omega,by rw[tQ,aL,SI];exact bO,l5⟩,dn⟩
  ·have dF:i=x.pieces.length:=(by omega);subst dF;have aJ:=hk tq l5;rw[bO]at aJ;refine cq ?_;refine ak ?_;refine bf ?_;exact cr aJ
theorem aiD{H:List aa}{k kp:AV->List aa->Prop}{x:aj}{tc:List Int}{qs:List Nat}(hk:k (.fn (.func 108) [] [.op H.length 0,.op (H.length+1) 0,.op (H.length+2) 0]) (H++[.cells x.l 76,.cells (tc.map iv) 86,.cells (qs.map λn=>wv n) 81])):bk lv SC 93 H [x.av,.agg (tc.map iv),.agg (qs.map λn=>wv n)] k kp:=by
 refine bL (rs:=[.tmp 6]) (nt:=8) Tryz.f93 λhH hA=> ?_;simp only[bt,SX,aj.av];refine ak ?_;refine ai ?_;simp only[seval,T_,UC,Uj,TP];refine bf ?_;exact cr hk
theorem ahQ{x:aj}{h:List Int}{ns qs:List Nat}{N ir it is:Nat}{yv pv:AV}{S:Type}{f:S->List Int->dJ S}{Gf:List Int->S->List aa}{I:S->Prop}{A:List Int->Prop}{tc:List Int}{σ:S}{k kp:AV->List aa->Prop}(hx:x.Ok)(h4:h.length=4)(iR:ns.length=x.pieces.length)(hY:∀tc,j6 lv SC yv f (Gf tc) N I A pv)(hr:∀tc σ L,(Gf tc σ++L)[ir]?=some (.cells x.l 76))
  (ht:∀tc σ L,(Gf tc σ++L)[it]?=some (.cells (tc.map iv) 86)) (dG:∀tc eF σ L,(Gf tc σ++L).set it (.cells (eF.map iv) 86)=Gf eF σ++L) (hs:∀tc σ L,(Gf tc σ++L)[is]?=some (.cells (qs.map λn=>wv n) 81)) (Av:∃r,qs=x.aB.map (cm h)++r) (ym:qs.length=3)
  (au:∀m tc eF σ,(∀z∈Gf tc σ,fh m z)->∀z∈Gf eF σ,fh m z) (mH:∀n,Lt n pv) (yr:tc=eg h ns) (hI:I σ) (hA:∀a∈(iK x h ns).map (dH h ns),A a) (hk:∀eF,eF.length=11->gH (Gf eF) pv k kp [] (bI f ((iK x h ns).map (dH h ns)) σ)):bk lv SC 108 (Gf tc σ) [yv,.op ir 0,.op it 0,.op is 0] k kp:=by
 refine bL (rs:=[]) (nt:=9) Tryz.f108 λhH uF=> ?_;simp only[bt,SX];have hN:=(hY tc).len σ;have oV:=hx.eN;have yo:=hx.dx;refine ai ?_;simp only[seval,(hY tc).parts];refine ak ?_;refine ai ?_;simp only[seval,T_,UC,Uj,TP];refine ak ?_;refine aI (?_);rw[hN];have so:∀n,Lt n (.aM []):=λn=>by simp[jV]
 have cN:=AW (k:=4) (l:=ns) (by omega);have cut:∀(eF:List Int)(σ':S)(L:List aa)(a:AV)(k:AV->List aa->Prop),(∀n,Lt n a)->k a (Gf eF σ')->cK (Gf tc σ).length (Gf eF σ'++L) a k:=λeF σ' L a k ha aJ=>by
  refine kg (H':=Gf eF σ') (Wk.refl _) rfl (by rw[(hY eF).len,(hY tc).len];exact SR _) ?_ (ha _) aJ;intro z hz;have h1:∀z∈Gf eF σ,fh N z:=au N tc eF σ (λw hw=>by have:=hH w hw;rwa [hN]at this);rw[(hY eF).len];exact(hY eF).ok N σ σ' h1 z hz
 refine ahR (x:=x) (h:=h) (ns:=ns) (qs:=qs) hx h4 iR hY hr ht dG hs Av ym x.aB.length 0 0 [] tc σ [] _ _ rfl (by decide) rfl ⟨?_,?_,?_⟩ hI hA (λeF tr=> ?_)
 ·rw[yr];simp[eg,h4,cN]
 ·rw[yr];unfold eg;rw[List.map_nil,SI,Tw (by simp[h4,cN]),SS (by simp[h4,cN])]
 ·rw[yr];unfold eg;rw[Vw,TW (by simp[h4,cN]),UK];have:(h++lP 4 ns).length=8:=by simp[h4,cN]
  rw[this];have:x.aB.length=0\/x.aB.length=1\/x.aB.length=2\/x.aB.length=3:=by omega
  rcases this with e|e|e|e<;>rw[e]<;>rfl
 have hk:=hk eF tr.len;change dc (Gf eF) pv _ _ _ (bI f ((iK x h ns).map (dH h ns)) σ);cases hf:bI f ((iK x h ns).map (dH h ns)) σ with
 |go s=>
  rw[hf]at hk;simp only[dc,gH]at hk⊢;rw[SI]at hk;(try simp only[seval]);rw[<- hN];exact cut _ _ _ _ _ so hk
 |stop s=>
  rw[hf]at hk;simp only[dc,gH]at hk⊢;rw[SI]at hk;(try simp only[seval]);rw[<- hN];exact cut _ _ _ _ _ so hk
 |bad s=>
  rw[hf]at hk;simp only[dc,gH]at hk⊢;rw[SI]at hk;rw[<- hN];exact cut _ _ _ _ _ mH hk
end
section
variable {lv:Bool}{P:SJ}{s:AS}{ms:List Nat}{bs:List UW}{nt:Nat}
theorem afO{f:Th}{ps:Array Tmp}{bP body:Ua}{fv:AV}{Φ:an->AS->List Nat->Prop}(hf:s.ev f=some fv)
  (h:∀(l fn:Nat)(T:List (Nat×AV))(ag bo:Ua),T=s.T->ag=bP->bo=body->jo lv P fv (s.H++[.obj (.deferred (some [])),.loop l .ready none fn T nt ps ag bo s.H.length]) [.fn (.yield l) [] []]
   (λ_ H'=>∃st pe fU T' jC gT gI fI gJ,H'[s.H.length+1]?=some (.loop l st pe fU T' jC gT gI fI gJ)/\st≠ .busy/\sT Φ ⟨s.T,H'.set (s.H.length+1) .gone⟩ (s.H.length::ms) pe)
   (λpv H'=>Φ (.panic pv) ⟨s.T,H'⟩ (s.H.length::ms))):mX lv P nt (.rangeFunc f ps bP body) s ms Φ:=afN hf λl fn=>h l fn _ _ _ rfl rfl rfl
theorem IE{f:Th}{ps:Array Tmp}{bP body:Ua}{fv:AV}{Φ:an->AS->List Nat->Prop}(hf:s.ev f=some fv)
  (h:∀(l fn:Nat)(T:List (Nat×AV))(ag bo:Ua),T=s.T->ag=bP->bo=body->jo lv P fv (s.H++[.obj (.deferred (some [])),.loop l .ready none fn T nt ps ag bo s.H.length]) [.fn (.yield l) [] []]
   (λ_ H'=>∃st pe fU T' jC gT gI fI gJ,H'[s.H.length+1]?=some (.loop l st pe fU T' jC gT gI fI gJ)/\st≠ .busy/\sT Φ ⟨s.T,H'.set (s.H.length+1) .gone⟩ (s.H.length::ms) pe)
   (λpv H'=>Φ (.panic pv) ⟨s.T,H'⟩ (s.H.length::ms))):kP lv P nt bs (.rangeFunc f ps bP body) s ms Φ:=afR hf λl fn=>h l fn _ _ _ rfl rfl rfl
theorem EL{f:Th}{ps:Array Tmp}{bP body:Ua}{fv:AV}{Φ:an->AS->Prop}{l0:Nat}(Gw:Nat){JJ MV df:Nat}{NQ:Z7}{M8:Option Ua}{T0:List (Nat×AV)}{Ns:Array Tmp}{Iw IJ:Ua}(hf:s.ev f=some fv)(h0:s.H[Gw]?=some (.loop l0 NQ M8 JJ T0 MV Ns Iw IJ df))
  (h:∀(l fn:Nat)(T:List (Nat×AV))(ag bo:Ua),T=s.T->ag=bP->bo=body->jo lv P fv (s.H++[.loop l .ready none fn T nt ps ag bo df]) [.fn (.yield l) [] []]
   (λ_ H'=>∃st pe fU T' jC gT gI fI gJ,H'[s.H.length]?=some (.loop l st pe fU T' jC gT gI fI gJ)/\st≠ .busy/\up Φ ⟨s.T,H'.set s.H.length .gone⟩ pe)
   (λpv H'=>Φ (.panic pv) ⟨s.T,H'⟩)):aQ lv P (some l0) nt (.rangeFunc f ps bP body) s Φ:=afD hf h0 λl fn=>h l fn _ _ _ rfl rfl rfl
end
section
variable {P:SJ}
theorem Hi(Φ:an->AS->List Nat->Prop)(s:AS)(ms:List Nat):sT Φ s ms none=Φ .normal s ms:=by rw[sT]
theorem aow(Φ:an->AS->List Nat->Prop)(s:AS)(ms:List Nat):sT Φ s ms (some .ret)=Φ .ret s ms:=by rw[sT]
theorem Hj(Φ:an->AS->Prop)(s:AS):up Φ s none=Φ .normal s:=by rw[up]
theorem aoy(Φ:an->AS->Prop)(s:AS):up Φ s (some .ret)=Φ .ret s:=by rw[up]
theorem aox(Φ:an->AS->Prop)(s:AS)(i:Nat):up Φ s (some (.exit i))=Φ (.exit i) s:=by rw[up]
theorem aga(id:Nat)(Φ:an->AS->List Nat->Prop)(s:AS)(ms:List Nat):an.qt id Φ .ret s ms=Φ .ret s ms:=by rw[an.qt];simp
theorem af9(id:Nat)(Φ:an->AS->List Nat->Prop)(pv:AV)(s:AS)(ms:List Nat):an.qt id Φ (.panic pv) s ms=Φ (.panic pv) s ms:=by rw[an.qt];simp
theorem aqR(Φ:an->AS->List Nat->Prop)(pv:AV)(s:AS)(ms:List Nat):an.vD Φ (.panic pv) s ms=Φ (.panic pv) s ms:=by rw[an.vD];simp
theorem arx(K:AS->List Nat->Prop)(Φ:an->AS->List Nat->Prop)(pv:AV)(s:AS)(ms:List Nat):an.sE K Φ (.panic pv) s ms=Φ (.panic pv) s ms:=by rw[an.sE];simp
theorem ai5(rs:List UN)(n:Nat)(k kp:AV->List aa->Prop)(s:AS)(ms:List Nat):sP P rs n k kp .normal s ms=ao (i_ ms s.H) λH'=>ao (iw P ⟨s.T,H'⟩ rs) λl=>cK n H' (jm l) k:=by rw[sP]
theorem ai6(rs:List UN)(n:Nat)(k kp:AV->List aa->Prop)(pv:AV)(s:AS)(ms:List Nat):sP P rs n k kp (.panic pv) s ms=ao (i_ ms s.H) λH'=>cK n H' pv kp:=by rw[sP]
attribute [seval] aga af9 aqR arx ai5 ai6
end
inductive Lp where
 |ready
 |ret
 |exit (i:Nat)
 |busy
def Lp.st:Lp->Z7
 |.ready=> .ready
 |.ret=> .done
 |.exit _=> .done
 |.busy=> .busy
def Lp.pe:Lp->Option Ua
 |.ready=>none
 |.ret=>some .ret
 |.exit i=>some (.exit i)
 |.busy=>none
namespace Tk
def dJ.map {S T:Type}(g:S->T):dJ S->dJ T
 |.go s=> .go (g s)
 |.stop s=> .stop (g s)
 |.bad s=> .bad (g s)
def dJ.fin {S:Type}:dJ S->Bool×S
 |.go s=>(false,s)
 |.stop s=>(false,s)
 |.bad s=>(true,s)
end Tk
theorem Nz{S:Type}{Gf:S->List aa}{pv:AV}{k kp:AV->List aa->Prop}{M:List aa}{r r':dJ S}(h:r.fin=r'.fin)(hk:gH Gf pv k kp M r):gH Gf pv k kp M r':=by
 cases r<;>cases r'<;>simp only[dJ.fin,UY]at h<;>first
  |(obtain⟨_,rfl⟩:=h;exact hk)
  |(exact absurd h.1 (by decide))
end Go.Gg
namespace Go.Gg.Tk
open Go.Gg
def jn {S:Type}(f:S->List Int->dJ S)(deep:Int)(m:S×Lp)(b:List Int):dJ (S×Lp):=match f m.1 b with
 |.go σ=>if deep=0 then .stop (σ,.ret)else if deep=1 then .stop (σ,.exit 3)else .go (σ,.ready)
 |.stop σ=> .stop (σ,.ret)
 |.bad σ=> .bad (σ,.busy)
def lw {S:Type}:dJ (S×Lp)->dJ (S×Lp)
 |.go m=> .go (m.1,.ready)
 |.stop (σ,.ret)=> .stop (σ,.ret)
 |.stop (σ,_)=> .go (σ,.ready)
 |.bad m=> .bad (m.1,.busy)
def qf {S:Type}(f:S->List Int->dJ S)(deep:Int)(L:List Int->List (List Int))(m:S×Lp)(a:List Int):dJ (S×Lp):=lw (bI (jn f deep) (L a) (m.1,.ready))
def su (deep:Int)(ll:List (List (List Int))):List (List Int):=if deep=0 then ll.flatten.take 1 else if deep=1 then(ll.map (·.take 1)).flatten else ll.flatten
theorem arL{S:Type}{f:S->List Int->dJ S}{σ:S}{l:Lp}:∀(M:List (List Int)),bI (jn f 0) M (σ,l)=match M with
  |[]=> .go (σ,l)
  |b::_=>match f σ b with
   |.go τ=> .stop (τ,.ret)
   |.stop τ=> .stop (τ,.ret)
   |.bad τ=> .bad (τ,.busy)
 |[]=>rfl
 |b::M=>by
  simp only[bI,jn];cases f σ b<;>simp
theorem arM{S:Type}{f:S->List Int->dJ S}{σ:S}{l:Lp}:∀(M:List (List Int)),bI (jn f 1) M (σ,l)=match M with
  |[]=> .go (σ,l)
  |b::_=>match f σ b with
   |.go τ=> .stop (τ,.exit 3)
   |.stop τ=> .stop (τ,.ret)
   |.bad τ=> .bad (τ,.busy)
 |[]=>rfl
 |b::M=>by
  simp only[bI,jn];cases f σ b<;>simp
theorem ady{S:Type}{f:S->List Int->dJ S}{deep:Int}(h0:deep≠0)(h1:deep≠1):∀(M:List (List Int))(σ:S),bI (jn f deep) M (σ,.ready)=match bI f M σ with
  |.go τ=> .go (τ,.ready)
  |.stop τ=> .stop (τ,.ret)
  |.bad τ=> .bad (τ,.busy)
 |[],σ=>rfl
 |b::M,σ=>by
  simp only[bI,jn,h0,h1,if_false];cases f σ b with
  |go τ=>exact ady h0 h1 M τ
  |stop τ=>rfl
  |bad τ=>rfl
theorem adz{S:Type}{f:S->List Int->dJ S}{deep:Int}{L:List Int->List (List Int)}:∀(l:List (List Int))(σ:S),((bI (qf f deep L) l (σ,.ready)).map Prod.fst).fin=(bI f (su deep (l.map L)) σ).fin/\(∀m,bI (qf f deep L) l (σ,.ready)=.go m->m.2=.ready)
 |[],σ=>by
  have:su deep (([]:List (List Int)).map L)=[]:=by
   unfold su;by_cases h0:deep=0
   ·rw[if_pos h0];rfl
   ·by_cases h1:deep=1
    ·rw[if_neg h0,if_pos h1];rfl
    ·rw[if_neg h0,if_neg h1];rfl
  rw[this];exact⟨rfl,λm h=>by cases h;rfl⟩
 |a::l,σ=>by
  have ih:=adz (f:=f) (deep:=deep) (L:=L) l;by_cases h0:deep=0
  ·subst h0;have hp:su 0 ((a::l).map L)=(L a++(l.map L).flatten).take 1:=rfl;have kj:su 0 (l.map L)=((l.map L).flatten).take 1:=rfl;rw[hp];simp only[bI,qf,arL];cases hL:L a with
   |nil=>
    simp only[lw,UK];rw[<- kj];exact ih σ
   |cons b M=>
    simp only[Ve,VS,ak_];cases hf:f σ b with
    |go τ=>simp only[lw,bI,hf];exact⟨rfl,λm h=>by cases h⟩
    |stop τ=>simp only[lw,bI,hf];exact⟨rfl,λm h=>by cases h⟩
    |bad τ=>simp only[lw,bI,hf];exact⟨rfl,λm h=>by cases h⟩
  by_cases h1:deep=1
  ·subst h1;have hp:su 1 ((a::l).map L)=(L a).take 1++su 1 (l.map L):=rfl;rw[hp,qW];simp only[bI,qf,arM];cases hL:L a with
   |nil=>
    simp only[lw,List.take_nil,bI];exact ih σ
   |cons b M=>
    simp only[VS,ak_,bI];cases hf:f σ b with
    |go τ=>simp only[lw];exact ih τ
    |stop τ=>simp only[lw];exact⟨rfl,λm h=>by cases h⟩
    |bad τ=>simp only[lw];exact⟨rfl,λm h=>by cases h⟩
  ·have hp:su deep ((a::l).map L)=L a++su deep (l.map L):=(by unfold su;rw[if_neg h0,if_neg h1,if_neg h0,if_neg h1];rfl);rw[hp,qW];simp only[bI,qf];rw[ady h0 h1];cases hf:bI f (L a) σ with
   |go τ=>simp only[lw];exact ih τ
   |stop τ=>simp only[lw];exact⟨rfl,λm h=>by cases h⟩
   |bad τ=>simp only[lw];exact⟨rfl,λm h=>by cases h⟩
theorem ND{S α:Type}{F:S->α->dJ S}:∀{l:List α}{s s':S},bI F l s=.stop s'->∃t a,F t a=.stop s'
 |[],s,s',h=>by cases h
 |a::l,s,s',h=>by
  simp only[bI]at h;cases hf:F s a with
  |go t=>rw[hf]at h;exact ND h
  |stop t=>rw[hf]at h;cases h;exact⟨s,a,hf⟩
  |bad t=>rw[hf]at h;cases h
theorem arK{S:Type}{f:S->List Int->dJ S}{deep:Int}{L:List Int->List (List Int)}{m m':S×Lp}{a:List Int}(h:qf f deep L m a=.stop m'):m'.2=.ret:=by
 unfold qf at h;generalize bI (jn f deep) (L a) (m.1,.ready)=r at h;cases r with
 |go q=>cases h
 |bad q=>cases h
 |stop q=>
  obtain⟨s,lp⟩:=q;cases lp<;>cases h;rfl
theorem arO{S:Type}{f:S->List Int->dJ S}{deep:Int}{m m':S×Lp}{a:List Int}(h:jn f deep m a=.stop m'):m'.2=.ret\/m'.2=.exit 3:=by
 unfold jn at h;cases hf:f m.1 a with
 |go q=>
  rw[hf]at h;dsimp only at h;by_cases h0:deep=0
  ·rw[if_pos h0]at h;cases h;exact .inl rfl
  ·rw[if_neg h0]at h;by_cases h1:deep=1
   ·rw[if_pos h1]at h;cases h;exact .inr rfl
   ·rw[if_neg h1]at h;cases h
 |stop q=>rw[hf]at h;cases h;exact .inl rfl
 |bad q=>rw[hf]at h;cases h
theorem arN{S:Type}{f:S->List Int->dJ S}{deep:Int}{m m':S×Lp}{a:List Int}(h:jn f deep m a=.go m'):m'.2=.ready:=by
 unfold jn at h;cases hf:f m.1 a with
 |go q=>
  rw[hf]at h;dsimp only at h;by_cases h0:deep=0
  ·rw[if_pos h0]at h;cases h
  ·rw[if_neg h0]at h;by_cases h1:deep=1
   ·rw[if_pos h1]at h;cases h
   ·rw[if_neg h1]at h;cases h;rfl
 |stop q=>rw[hf]at h;cases h
 |bad q=>rw[hf]at h;cases h
theorem aci{S α:Type}{F:S->α->dJ S}{J:S->Prop}{A:α->Prop}(hi:∀s a s',J s->A a->F s a=.go s'->J s'):∀{l:List α}{s s':S},(∀a∈l,A a)->J s->bI F l s=.stop s'->∃t a,J t/\A a/\F t a=.stop s'
 |[],s,s',_,_,h=>by cases h
 |a::l,s,s',ha,hs,h=>by
  simp only[bI]at h;cases hf:F s a with
  |go t=>rw[hf]at h;exact aci hi (λb hb=>ha b (by simp[hb])) (hi s a t hs (ha a (by simp)) hf) h
  |stop t=>rw[hf]at h;cases h;exact⟨s,a,hs,ha a (by simp),hf⟩
  |bad t=>rw[hf]at h;cases h
theorem D7{S:Type}{f:S->List Int->dJ S}{deep:Int}{I:S->Prop}{A:List Int->Prop}(hi:∀s a s',I s->A a->f s a=.go s'->I s'){m m':S×Lp}{a:List Int}(hm:I m.1)(ha:A a)(h:jn f deep m a=.go m'\/jn f deep m a=.stop m'/\m'.2≠ .ret):I m'.1:=by
 unfold jn at h;cases hf:f m.1 a with
 |go q=>
  have hq:=hi _ _ _ hm ha hf;rw[hf]at h;dsimp only at h;by_cases h0:deep=0
  ·rw[if_pos h0]at h;rcases h with h|⟨h,h2⟩
   ·cases h
   ·cases h;exact hq
  ·rw[if_neg h0]at h;by_cases h1:deep=1
   ·rw[if_pos h1]at h;rcases h with h|⟨h,h2⟩
    ·cases h
    ·cases h;exact hq
   ·rw[if_neg h1]at h;rcases h with h|⟨h,h2⟩
    ·cases h;exact hq
    ·cases h
 |stop q=>
  rw[hf]at h;rcases h with h|⟨h,h2⟩
  ·cases h
  ·cases h;exact absurd rfl h2
 |bad q=>
  rw[hf]at h;rcases h with h|⟨h,h2⟩
  ·cases h
  ·cases h
theorem aeX{S:Type}{f:S->List Int->dJ S}{deep:Int}{I:S->Prop}{A:List Int->Prop}(hi:∀s a s',I s->A a->f s a=.go s'->I s'){l:List (List Int)}{σ:S}{m:S×Lp}(hl:∀a∈l,A a)(hs:I σ)(h:lw (bI (jn f deep) l (σ,.ready))=.go m):I m.1/\m.2=.ready:=by
 cases hr:bI (jn f deep) l (σ,.ready)with
 |go q=>
  rw[hr]at h;cases h;exact⟨A1 (f:=jn f deep) (s':=q) (I:=λm:S×Lp=>I m.1) (A:=A) (λs a s' h1 h2 h3=>D7 hi h1 h2 (.inl h3)) l _ hl hs hr,rfl⟩
 |stop q=>
  obtain⟨t,a,h1,h2,h3⟩:=aci (J:=λm:S×Lp=>I m.1) (A:=A) (λs a s' h1 h2 h3=>D7 hi h1 h2 (.inl h3)) hl hs hr;rw[hr]at h;obtain⟨q1,q2⟩:=q;cases q2 with
  |ret=>cases h
  |ready=>cases h;exact⟨D7 (m':=(q1,.ready)) hi h1 h2 (.inr ⟨h3,by simp⟩),rfl⟩
  |exit i=>cases h;exact⟨D7 (m':=(q1,.exit i)) hi h1 h2 (.inr ⟨h3,by simp⟩),rfl⟩
  |busy=>cases h;exact⟨D7 (m':=(q1,.busy)) hi h1 h2 (.inr ⟨h3,by simp⟩),rfl⟩
 |bad q=>rw[hr]at h;cases h
end Go.Gg.Tk
namespace Go.Gg
open Go.Conc Go.Proofs Go.Gg.Tk
namespace Tk
def nJ (l:List Nat)(i:Nat):List Nat:=l.take i++TG (3-i) 0
theorem af3{l:List Nat}{i q:Nat}(h:l[i]?=some q)(hl:l.length<=3):(nJ l i).set i q=nJ l (i+1):=by
 have hi:=e_ h;unfold nJ;rw[T9 _ _ (by simp;omega),show i-(l.take i).length=0 by simp;omega,show 3-i=(3-(i+1))+1 by omega,Wt,T4,Wx,h];simp
theorem Pg{l:List Nat}{i:Nat}(hi:i<=l.length)(hl:l.length<=3):(nJ l i).length=3:=by simp[nJ];omega
theorem af2{l:List Nat}:nJ l l.length=l++TG (3-l.length) 0:=by simp[nJ]
theorem abB:∀{qs:List Nat}{u:Nat}{t ns:List Nat},ns∈lj qs u t->ns.length=t.length+qs.length
 |[],u,t,ns,h=>by
  simp only[lj,S9]at h;subst h;rfl
 |q::qs,u,t,ns,h=>by
  simp only[lj,S6]at h;obtain⟨n,_,h⟩:=h;split at h
  ·cases h
  ·have:=abB h;simp at this⊢;omega
theorem MW{x:aj}{h:List Int}{ns:List Nat}(hm:ns∈gD x h):ns.length=x.pieces.length:=by
 have:=abB hm;simpa using this
def GV (k:Nat)(a:List Int):List Nat:=((a.drop 4).take k).map XJ
theorem anE{h:List Int}{ns:List Nat}(h4:h.length=4):GV ns.length (eg h ns)=ns:=by
 unfold GV eg lP;rw[SA,Vw,TW (by omega),h4,UK,Va,Xw,SA,Tw (by simp),SS (by simp),XW]
 conv=>rhs;rw[<- List.map_id ns]
 exact VB λn _=>by simp
def vd (x:aj)(h:List Int)(a:List Int):List (List Int):=(iK x h (GV x.pieces.length a)).map (dH h (GV x.pieces.length a))
theorem L9{x:aj}{h:List Int}{ns:List Nat}(h4:h.length=4)(hn:ns.length=x.pieces.length):vd x h (eg h ns)=(iK x h ns).map (dH h ns):=by
 unfold vd;rw[<- hn,anE h4]
theorem arT{x:aj}{h:List Int}{deep:Int}(h4:h.length=4):jG x deep h=su deep (((gD x h).map (eg h)).map (vd x h)):=by
 rw[XW];have:(gD x h).map (vd x h∘eg h)=(gD x h).map λns=>(iK x h ns).map λos=>dH h ns os:=VB λns hm=>L9 h4 (MW hm);rw[this];rfl
end Tk
section
variable {lv:Bool}
theorem Ju{H:List aa}{k kp:AV->List aa->Prop}{x:aj}{h:List Int}{deep:Int}(hk:k (.fn (.func 91) [] [.op H.length 0,.op (H.length+1) 0,.op (H.length+2) 0]) (H++[.cells x.l 76,.cells (h.map iv) 83,.cells [iv deep] 3])):bk lv SC 66 H [x.av,.agg (h.map iv),iv deep] k kp:=by
 refine bL (rs:=[.tmp 6]) (nt:=8) Tryz.f66 λhH hA=> ?_;simp only[bt,SX,aj.av];refine ak ?_;refine ai ?_;simp only[seval,T_,UC,Uj,TP];refine bf ?_;exact cr hk
theorem Jx{x:aj}{h:List Int}{deep:Int}{N ir ih id:Nat}{yv pv:AV}{S:Type}{f:S->List Int->dJ S}{Gf:S->List aa}{I:S->Prop}{A:List Int->Prop}{σ:S}{k kp:AV->List aa->Prop}(hx:x.Ok)(hh:mY h)(hY:j6 lv SC yv f Gf N I A pv)(hr:∀σ L,(Gf σ++L)[ir]?=some (.cells x.l 76))(hi:∀σ L,(Gf σ++L)[ih]?=some (.cells (h.map iv) 83))(hd:∀σ L,(Gf σ++L)[id]?=some (.cells [iv deep] 3))
  (mH:∀n,Lt n pv) (hI:I σ) (qx:∀a,A a->a.length=11) (hA:∀ns∈gD x h,∀a∈(iK x h ns).map (dH h ns),A a) (hk:gH Gf pv k kp [] (bI f (jG x deep h) σ)):bk lv SC 91 (Gf σ) [yv,.op ir 0,.op ih 0,.op id 0] k kp:=by
 refine Qy (rs:=[]) (nt:=44) F.f91 rfl rfl rfl (by simp) λhH uF=> ?_;simp only[bt,SX];have hN:=hY.len σ;have yo:=hx.dx;have bT:x.l=[iv x.first,iv x.hours,iv x.am,dP x.seen,aS x.pieces,aS x.aB]:=rfl;have nQ:(h.map iv).length=4:=by rw[Tm,hh.len]
 refine nI ?_;refine ai ?_;simp only[seval,hY.parts];refine afP ?_;refine nI ?_;refine ak ?_;refine ID ?_;refine nI ?_;refine ai ?_;simp only[seval,hr,bT,aS];refine IC ?_;refine cL ?_;refine iD x.aB.length (λi:Nat=>[(14,iv i)]) (λi=>Gf σ++[.cells [yv] 132,.cells ((nJ (x.aB.map (cm h)) i).map λn=>wv n) 81]) (λi=>True) (λ_ _=>rfl) (by simp only[seval];simp[bw,Wk.refl]) rfl (λ_ _ _=>by simp) trivial (λb_ dj i cV _ R hR=> ?_);refine ak ?_;refine aD ?_;refine⟨λhc=> ?_,λhc=> ?_⟩
 ·have bD:i<x.aB.length:=by omega
  obtain⟨y,hy⟩:=cD bD;have va:(x.aB.map (cm h))[i]?=some (cm h y):=by rw[Tn,hy];rfl
  have b3:(0<=(i:Int)/\(i:Int)<3)=True:=by simp;omega
  have bU:SE.wrap ((i:Int)+1)=((i+1:Nat):Int):=by rw[bG _ (by omega)];rfl
  have cT:(nJ (x.aB.map (cm h)) i).length=3:=Pg (by simp;omega) (by simpa using yo);have wl:((nJ (x.aB.map (cm h)) i).map λn=>wv n).length=3:=by rw[Tm,cT]
  refine aN ?_;refine ai ?_;simp only[seval,DY hy,j8 bD];refine ai ?_;simp only[seval,hi,nQ];rw[SS (i:=4) (l:=h.map iv) (by rw[nQ];exact SR _)];refine aI ((Fc (h:=h) (y:=y) hh ?_));(try simp only[seval,b3,wl]);refine⟨by omega,?_⟩;rw[NL (g:=λn=>wv n) (show i<(nJ (x.aB.map (cm h)) i).length by omega),af3 va (by simpa using yo)];refine ai ?_;simp only[seval,bU];exact hR _ ⟨bD,trivial,A0 (qS rfl rfl) (by simp only[seval];simp[bw,Wk.refl]) (Sw (L:=[_]) b_ (abH _ _)) (by simp[fe])⟩
 have:i=x.aB.length:=by omega
 subst this;clear hc cV;refine cq ?_;have Av:∃r,nJ (x.aB.map (cm h)) x.aB.length=x.aB.map (cm h)++r:=⟨_,by
  have:=af2 (l:=x.aB.map (cm h));simpa using this⟩
 have ym:(nJ (x.aB.map (cm h)) x.aB.length).length=3:=Pg (by simp) (by simpa using yo);have Ls:((nJ (x.aB.map (cm h)) x.aB.length).map λn=>wv n).length=3:=by rw[Tm,ym]
 generalize nJ (x.aB.map (cm h)) x.aB.length=qs at Av ym Ls;refine nI ?_;(repeat apply iY);refine O1 ?_;simp only[seval];refine nI ?_;refine ai ?_;simp only[seval,hr,bT,hi,nQ];rw[SS (i:=4) (l:=h.map iv) (by rw[nQ];exact SR _)];refine aI ((aiC (x:=x) (h:=h) ?_));(try simp only[seval]);refine afM ?_;refine afO (by rfl) λl fn T ag bo hT xZ qB=> ?_;(try simp only[seval]);rw[hN]at hT⊢;have h4:=hh.len;have ajH:j6 lv SC (.fn (.yield l) [] []) (qf f deep (vd x h)) (λm:S×Lp=>Gf m.1++[.cells [yv] 132,.cells (qs.map λn=>wv n) 81,.cells x.l 76,.cells (h.map iv) 83,.obj (.deferred (some [])),.loop l m.2.st m.2.pe fn T 44 #[28] ag bo (N+4)]) (N+6) (λm=>I m.1/\m.2=.ready) (λa=>∃ns∈gD x h,a=eg h ns) pv:=by
  have g3:∀(σ:S)(L:List aa),(Gf σ++L)[N+1]?=L[1]?:=λσ L=>hY.get σ L 1;have g5:∀(σ:S)(L:List aa),(Gf σ++L)[N+5]?=L[5]?:=λσ L=>hY.get σ L 5;have s5:∀(σ:S)(L:List aa) y,(Gf σ++L).set (N+5) y=Gf σ++L.set 5 y:=λσ L y=>hY.set σ L 5 y;refine⟨λm a M k kp hm ha dX=> ?_,λm a m' hm ha he=> ?_,λm=>by simp[hY.len],λq m m' hz z fB=> ?_,rfl,rfl,rfl⟩
  ·obtain⟨σ,lp⟩:=m;obtain⟨JZ,im⟩:=hm;replace JZ:I σ:=JZ;replace im:lp=.ready:=im;subst im;obtain⟨ns,iR,rfl⟩:=ha;have iQ:=MW iR;have qP:(eg h ns).length=11:=(by simp[eg,h4,AW (k:=4) (l:=ns) (by have:=hx.eN;omega)]);have AA:((eg h ns).map iv).length=11:=(by rw[Tm,qP]);obtain⟨Lo,lC⟩:∃Lo,Lo=aa.loop l .busy none fn T 44 #[28] ag bo (N+4):=⟨_,rfl⟩;obtain⟨P1,dD⟩:∃P1:S->List aa,∀σ,P1 σ=Gf σ++([.cells [yv] 132,.cells (qs.map λn=>wv n) 81,.cells x.l 76,.cells (h.map iv) 83,.obj (.deferred (some [])),Lo]++M):=⟨_,λ_=>rfl⟩;have eJ:∀σ,(P1 σ).length=N+6+M.length:=λσ=>(by rw[dD];simp[hY.len];omega);have pg:∀(σ:S)(L:List aa)(i:Nat),i<6->(P1 σ++L)[N+i]?=[aa.cells [yv] 132,.cells (qs.map λn=>wv n) 81,.cells x.l 76,.cells (h.map iv) 83,.obj (.deferred (some [])),Lo][i]?:=λσ L i KQ=>by
    rw[dD,SA,hY.get,SA,SY (by simpa using KQ)]
   have pr:∀(σ:S)(L:List aa),(P1 σ++L)[ir]?=some (.cells x.l 76):=λσ L=>(by rw[dD,SA];exact hr σ _);have pd:∀(σ:S)(L:List aa),(P1 σ++L)[id]?=some (.cells [iv deep] 3):=λσ L=>(by rw[dD,SA];exact hd σ _);have pb:∀(σ:S)(L:List aa)(i:Nat),(P1 σ++L)[N+6+M.length+i]?=L[i]?:=λσ L i=>(by rw[<- eJ σ,aW]);have wX:∀(σ:S)(L:List aa),(P1 σ++L)[N+6+M.length]?=L[0]?:=λσ L=>pb σ L 0;have pg1:∀(σ:S)(L:List aa),(P1 σ++L)[N+1]?=some (.cells (qs.map λn=>wv n) 81):=λσ L=>pg σ L 1 (by omega);have pg0:∀(σ:S)(L:List aa),(P1 σ++L)[N]?=some (.cells [yv] 132):=λσ L=>pg σ L 0 (by omega);have RB:∀(τ:S)(lp:Lp),bM (Gf σ++(([aa.cells [yv] 132,.cells (qs.map λn=>wv n) 81,.cells x.l 76,.cells (h.map iv) 83,.obj (.deferred (some [])),.loop l .ready none fn T 44 #[28] ag bo (N+4)]:List aa)++M))->bM (Gf τ++(([aa.cells [yv] 132,.cells (qs.map λn=>wv n) 81,.cells x.l 76,.cells (h.map iv) 83,.obj (.deferred (some [])),.loop l lp.st lp.pe fn T 44 #[28] ag bo (N+4)]:List aa)++M)):=λτ lp iF z hz=>by
    have hlen:(Gf τ++(([aa.cells [yv] 132,.cells (qs.map λn=>wv n) 81,.cells x.l 76,.cells (h.map iv) 83,.obj (.deferred (some [])),.loop l lp.st lp.pe fn T 44 #[28] ag bo (N+4)]:List aa)++M)).length=(Gf σ++(([aa.cells [yv] 132,.cells (qs.map λn=>wv n) 81,.cells x.l 76,.cells (h.map iv) 83,.obj (.deferred (some [])),.loop l .ready none fn T 44 #[28] ag bo (N+4)]:List aa)++M)).length:=(by simp[hY.len]);have hl:=iF (.loop l .ready none fn T 44 #[28] ag bo (N+4)) (by simp);rw[hlen];rcases SV.1 hz with h'|h'
    ·exact hY.ok _ σ τ (λw hw=>iF w (Tf _ hw)) z h'
    ·rcases SV.1 h' with h'|h'
     ·simp only[SL,S0,or_false]at h';rcases h' with rfl|rfl|rfl|rfl|rfl|rfl
      ·exact iF _ (by simp)
      ·exact iF _ (by simp)
      ·exact iF _ (by simp)
      ·exact iF _ (by simp)
      ·exact iF _ (by simp)
      ·exact hl
     ·exact iF z (S4 _ (S4 _ h'))
   have Jz:bM (Gf σ++(([aa.cells [yv] 132,.cells (qs.map λn=>wv n) 81,.cells x.l 76,.cells (h.map iv) 83,.obj (.deferred (some [])),.loop l .ready none fn T 44 #[28] ag bo (N+4)]:List aa)++M))->∀(τ:S)(lp:Lp)(b':Bool)(TT:List (Nat×AV))(L:List aa),k (bv b') ((Gf τ++[.cells [yv] 132,.cells (qs.map λn=>wv n) 81,.cells x.l 76,.cells (h.map iv) 83,.obj (.deferred (some [])),.loop l lp.st lp.pe fn T 44 #[28] ag bo (N+4)])++M)->pn (N+5) (N+6+M.length) k lp.st lp.pe b' ⟨TT,P1 τ++L⟩:=λiF τ lp b' TT L dX=>by
    refine⟨l,.busy,none,fn,T,44,#[28],ag,bo,N+4,by show (P1 τ++L)[_]?=_;rw[pg τ _ 5 (by omega),lC];rfl,?_⟩;show cK (N+6+M.length) ((P1 τ++L).set _ _) _ k;rw[dD,SA,s5];rw[SA]at dX;exact kg (G:=L) (Wk.refl _) (by simp) (by simp[hY.len];omega) (RB τ lp iF) (.val _) dX
   have aiS:bM (Gf σ++(([aa.cells [yv] 132,.cells (qs.map λn=>wv n) 81,.cells x.l 76,.cells (h.map iv) 83,.obj (.deferred (some [])),.loop l .ready none fn T 44 #[28] ag bo (N+4)]:List aa)++M))->∀(τ:S)(L:List aa),kp pv ((Gf τ++[.cells [yv] 132,.cells (qs.map λn=>wv n) 81,.cells x.l 76,.cells (h.map iv) 83,.obj (.deferred (some [])),.loop l Lp.busy.st Lp.busy.pe fn T 44 #[28] ag bo (N+4)])++M)->cK (N+6+M.length) (P1 τ++L) pv kp:=λiF τ L dX=>by
    rw[SA]at dX;rw[dD,lC];exact kg (G:=L) (Wk.refl _) rfl (by simp[hY.len];omega) (RB τ .busy iF) (mH _) dX
   subst hT xZ qB;rw[SA];refine vY (id:=N+5) (by rw[g5];rfl) rfl (by kernel_rfl) λoK JU=> ?_;simp only[sI];have wq:T1 11 [iv 0,iv 0,iv 0,iv 0,iv 0,iv 0,iv 0,iv 0,iv 0,iv 0,iv 0]=[]:=rfl;refine ai ?_;simp only[seval,qP,wq];unfold uq;refine⟨none,fn,_,44,#[28],_,_,_,by rw[g5];rfl,?_⟩;dsimp only;rw[s5];simp only[UE,T4];rw[<- lC];have xT:(Gf σ).length+(M.length+1+1+1+1+1+1)=N+6+M.length:=(by rw[hY.len];omega);rw[xT];have yc:∀z:aa,Gf σ++aa.cells [yv] 132::aa.cells (U5 (λn=>wv n) qs) 81::aa.cells x.l 76::aa.cells (U5 iv h) 83::aa.obj (aub (some []))::Lo::(M++[z])=P1 σ++[z]:=λz=>(by rw[dD];simp);rw[yc];refine ai ?_;simp only[seval,pr,bT,wX,pg1,AA,qP,Ls,ym];rw[SS (i:=11) (l:=(eg h ns).map iv) (by rw[AA];exact SR _),SS (i:=3) (l:=qs.map λn=>wv n) (by rw[Ls];exact SR _)];refine aI ((aiD (x:=x) (tc:=eg h ns) (qs:=qs) ?_));(try simp only[seval]);refine cL ?_;have qF:∀(σ:S)(a b c d:aa),(P1 σ++[a,b,c,d]).length=N+6+M.length+4:=λσ a b c d=>(by simp[eJ]);refine EL (N+5) (by rfl) (by show (P1 σ++_)[N+5]?=_;rw[pg σ _ 5 (by omega),lC];rfl) λl2 e9 T2 gV gW oL x6 x7=> ?_;simp only[seval];rw[eJ]at oL⊢;have AL:∀(σ τ:S)(L L':List aa),L'.length=L.length->(∀q,(∀z∈L,fh q z)->∀z∈L',fh q z)->bM (P1 σ++L)->bM (P1 τ++L'):=λσ τ L L' hl hL hH z hz=>by
    have hlen:(P1 τ++L').length=(P1 σ++L).length:=(by simp[eJ,hl]);rw[hlen];rcases SV.1 hz with h'|h'
    ·rw[dD]at h';rcases SV.1 h' with h'|h'
     ·exact hY.ok _ σ τ (λw hw=>hH w (Tf _ (by rw[dD];exact Tf _ hw))) z h'
     ·exact hH z (Tf _ (by rw[dD];exact S4 _ h'))
    ·exact hL _ (λw hw=>hH w (S4 _ hw)) z h'
   have xY:∀tc:List Int,j6 lv SC (.fn (.yield l2) [] []) (jn f deep) (λm:S×Lp=>P1 m.1++[.cells ((eg h ns).map iv) 86,.cells x.l 76,.cells (tc.map iv) 86,.cells (qs.map λn=>wv n) 81,.loop l2 m.2.st m.2.pe e9 T2 44 #[33] gV gW (N+4)]) (N+6+M.length+5) (λm=>I m.1/\m.2=.ready) A pv:=λtc=>by
    refine⟨λm b M2 k2 yE hm hb lH=> ?_,λm b m' hm hb he=> ?_,λm=>by simp[eJ],λq m m' hz z fB=> ?_,rfl,rfl,rfl⟩
    ·obtain⟨σ',lp⟩:=m;obtain⟨J3,im⟩:=hm;replace J3:I σ':=J3;replace im:lp=.ready:=im;subst im;have cT:b.length=11:=qx b hb;have wl:(b.map iv).length=11:=(by rw[Tm,cT]);obtain⟨qj,tn⟩:∃Lo,Lo=aa.loop l2 .busy none e9 T2 44 #[33] gV gW (N+4):=⟨_,rfl⟩;obtain⟨Q1,gK⟩:∃Q1:S->List aa,∀σ,Q1 σ=P1 σ++([.cells ((eg h ns).map iv) 86,.cells x.l 76,.cells (tc.map iv) 86,.cells (qs.map λn=>wv n) 81,qj]++M2):=⟨_,λ_=>rfl⟩;obtain⟨C,hC⟩:∃C,C=N+6+M.length+5+M2.length:=⟨_,rfl⟩;have J_:∀σ,(Q1 σ).length=C:=λσ=>(by rw[gK,hC];simp[eJ];omega);have mo:∀(σ:S)(L:List aa),(P1 σ++L)[N+6+M.length+4]?=L[4]?:=λσ L=>pb σ L 4;have qe:∀(σ:S)(L:List aa)(y:aa),(P1 σ++L).set (N+6+M.length+4) y=P1 σ++L.set 4 y:=λσ L y=>(by rw[<- eJ σ,cY]);have qN:∀(σ:S)(L:List aa),(Q1 σ++L)[N]?=some (.cells [yv] 132):=λσ L=>(by rw[gK,SA];exact pg0 σ _);have qd:∀(σ:S)(L:List aa),(Q1 σ++L)[id]?=some (.cells [iv deep] 3):=λσ L=>(by rw[gK,SA];exact pd σ _);have q4:∀(σ:S)(L:List aa),(Q1 σ++L)[N+6+M.length+4]?=some qj:=λσ L=>(by rw[gK,SA,mo];rfl);have qc:∀(σ:S)(L:List aa),(Q1 σ++L)[C]?=L[0]?:=λσ L=>(by rw[<- J_ σ];exact aW _ L 0);have Nv:∀(σ:S)(L:List aa)(y:aa),(Q1 σ++L).set (N+6+M.length+4) y=(P1 σ++([.cells ((eg h ns).map iv) 86,.cells x.l 76,.cells (tc.map iv) 86,.cells (qs.map λn=>wv n) 81,y]++M2))++L:=λσ L y=>(by rw[gK,SA,qe];simp);obtain⟨Mz,Fy⟩:∃Mz:List aa,∀σ,Q1 σ++[.cells (b.map iv) 86]=Gf σ++Mz:=⟨_,λσ=>by rw[gK,dD,SA,SA]⟩;have fY:∀(τ:S)(lp:Lp),bM (P1 σ'++([.cells ((eg h ns).map iv) 86,.cells x.l 76,.cells (tc.map iv) 86,.cells (qs.map λn=>wv n) 81,.loop l2 .ready none e9 T2 44 #[33] gV gW (N+4)]++M2))->bM (P1 τ++([.cells ((eg h ns).map iv) 86,.cells x.l 76,.cells (tc.map iv) 86,.cells (qs.map λn=>wv n) 81,.loop l2 lp.st lp.pe e9 T2 44 #[33] gV gW (N+4)]++M2)):=λτ lp iF=>AL σ' τ _ _ (by simp) (λq hz z fB=>by
      have hl:=hz (.loop l2 .ready none e9 T2 44 #[33] gV gW (N+4)) (by simp);rcases SV.1 fB with h'|h'
      ·simp only[SL,S0,or_false]at h';rcases h' with rfl|rfl|rfl|rfl|rfl
       ·exact hz _ (by simp)
       ·exact hz _ (by simp)
       ·exact hz _ (by simp)
       ·exact hz _ (by simp)
       ·exact hl
      ·exact hz _ (S4 _ h')) iF
     have gQ:dc (λm:S×Lp=>P1 m.1++[.cells ((eg h ns).map iv) 86,.cells x.l 76,.cells (tc.map iv) 86,.cells (qs.map λn=>wv n) 81,.loop l2 m.2.st m.2.pe e9 T2 44 #[33] gV gW (N+4)]) pv k2 yE M2 (jn f deep (σ',.ready) b):=lH;have KC:∀z:aa,P1 σ'++(aa.cells (U5 iv (eg h ns)) 86::aa.cells x.l 76::aa.cells (U5 iv tc) 86::aa.cells (U5 (λn=>wv n) qs) 81::qj::(M2++[z]))=Q1 σ'++[z]:=λz=>(by rw[gK];simp);have Fg:bM (P1 σ'++([.cells ((eg h ns).map iv) 86,.cells x.l 76,.cells (tc.map iv) 86,.cells (qs.map λn=>wv n) 81,.loop l2 .ready none e9 T2 44 #[33] gV gW (N+4)]++M2))->∀(τ:S)(lp:Lp)(b':Bool)(TT:List (Nat×AV)),k2 (bv b') ((P1 τ++[.cells ((eg h ns).map iv) 86,.cells x.l 76,.cells (tc.map iv) 86,.cells (qs.map λn=>wv n) 81,.loop l2 lp.st lp.pe e9 T2 44 #[33] gV gW (N+4)])++M2)->pn (N+6+M.length+4) C k2 lp.st lp.pe b' ⟨TT,Gf τ++Mz⟩:=λiF τ lp b' TT dX=>by
      refine⟨l2,.busy,none,e9,T2,44,#[33],gV,gW,N+4,by show (Gf τ++Mz)[_]?=_;rw[<- Fy,q4,tn],?_⟩;show cK C ((Gf τ++Mz).set _ _) _ k2;rw[<- Fy,Nv];rw[SA]at dX;exact kg (G:=[.cells (b.map iv) 86]) (Wk.refl _) rfl (by rw[hC];simp[eJ];omega) (fY τ lp iF) (.val _) dX
     have aiR:bM (P1 σ'++([.cells ((eg h ns).map iv) 86,.cells x.l 76,.cells (tc.map iv) 86,.cells (qs.map λn=>wv n) 81,.loop l2 .ready none e9 T2 44 #[33] gV gW (N+4)]++M2))->∀τ:S,yE pv ((P1 τ++[.cells ((eg h ns).map iv) 86,.cells x.l 76,.cells (tc.map iv) 86,.cells (qs.map λn=>wv n) 81,.loop l2 Lp.busy.st Lp.busy.pe e9 T2 44 #[33] gV gW (N+4)])++M2)->cK C (Gf τ++Mz) pv yE:=λiF τ dX=>by
      rw[<- Fy,gK,tn];rw[SA]at dX;exact kg (G:=[.cells (b.map iv) 86]) (Wk.refl _) rfl (by rw[hC];simp[eJ];omega) (fY τ .busy iF) (mH _) dX
     subst oL x6 x7;rw[SA];refine vY (id:=N+6+M.length+4) (by rw[mo];rfl) rfl (by kernel_rfl) λrK JV=> ?_;simp only[sI];refine ai ?_;simp only[seval,cT,wq];unfold uq;refine⟨none,e9,_,44,#[33],_,_,_,by rw[mo];rfl,?_⟩;dsimp only;rw[qe];simp only[UE,T4];rw[<- tn];have Cj:(P1 σ').length+(M2.length+1+1+1+1+1)=C:=(by rw[eJ,hC];omega);rw[Cj,KC];refine ai ?_;simp only[seval,qN,qc,cT,wl];rw[SS (i:=11) (l:=b.map iv) (by rw[wl];exact SR _),Fy];refine xD (hY.call σ' b Mz _ _ J3 hb ?_);unfold jn at gQ;rw[show f (σ',Lp.ready).1 b=f σ' b from rfl]at gQ;cases hf:f σ' b with
     |go τ=>
      rw[hf]at gQ;dsimp only at gQ;simp only[dc];(try simp only[seval,hd]);refine aD ?_;refine⟨λh0=> ?_,λh0=> ?_⟩
      ·replace h0:deep=0:=(by simpa using h0);rw[if_pos h0]at gQ;simp only[dc]at gQ;refine bf ?_;exact Fg rK τ .ret false _ gQ
      ·replace h0:¬deep=0:=(by simpa using h0);rw[if_neg h0]at gQ;refine aN ?_;refine ai ?_;simp only[seval,hd];refine aD ?_;refine⟨λh1=> ?_,λh1=> ?_⟩
       ·replace h1:deep=1:=(by simpa using h1);rw[if_pos h1]at gQ;simp only[dc]at gQ;refine cq ?_;exact Fg rK τ (.exit 3) false _ gQ
       ·replace h1:¬deep=1:=(by simpa using h1);rw[if_neg h1]at gQ;simp only[dc]at gQ;refine aN ?_;exact Fg rK τ .ready true _ gQ
     |stop τ=>
      rw[hf]at gQ;dsimp only at gQ;simp only[dc]at gQ⊢;(try simp only[seval]);refine aD ?_;refine bf ?_;exact Fg rK τ .ret false _ gQ
     |bad τ=>
      rw[hf]at gQ;dsimp only at gQ;simp only[dc]at gQ⊢;exact aiR rK τ gQ
    ·obtain⟨σ',lp⟩:=m;obtain⟨τ,Dr⟩:=m';unfold jn at he;have hi:=(hY.inv σ' b τ hm.1 hb);cases hf:f σ' b with
     |go τ'=>
      rw[show f (σ',lp).1 b=f σ' b from rfl,hf]at he;dsimp only at he;by_cases h0:deep=0
      ·rw[if_pos h0]at he;cases he
      ·rw[if_neg h0]at he;by_cases h1:deep=1
       ·rw[if_pos h1]at he;cases he
       ·rw[if_neg h1]at he;cases he;exact⟨hi hf,rfl⟩
     |stop τ'=>rw[show f (σ',lp).1 b=f σ' b from rfl,hf]at he;cases he
     |bad τ'=>rw[show f (σ',lp).1 b=f σ' b from rfl,hf]at he;cases he
    ·rcases SV.1 fB with h'|h'
     ·rw[dD]at h';rcases SV.1 h' with h'|h'
      ·exact hY.ok q m.1 m'.1 (λw hw=>hz w (Tf _ (by rw[dD];exact Tf _ hw))) z h'
      ·exact hz z (Tf _ (by rw[dD];exact S4 _ h'))
     ·have hl:=hz _ (S4 _ (Td (i:=4) rfl));simp only[SL,S0,or_false]at h';rcases h' with rfl|rfl|rfl|rfl|rfl
      ·exact hz _ (S4 _ (by simp))
      ·exact hz _ (S4 _ (by simp))
      ·exact hz _ (S4 _ (by simp))
      ·exact hz _ (S4 _ (by simp))
      ·exact hl
   have e1:qf f deep (vd x h) (σ,.ready) (eg h ns)=lw (bI (jn f deep) ((iK x h ns).map (dH h ns)) (σ,.ready)):=(by unfold qf;rw[L9 h4 iQ]);rw[e1]at dX;refine bX (ahQ (x:=x) (h:=h) (ns:=ns) (qs:=qs) (N:=N+6+M.length+5) (ir:=N+6+M.length+1) (it:=N+6+M.length+2) (is:=N+6+M.length+3) (tc:=eg h ns) (σ:=(σ,Lp.ready)) hx h4 iQ xY (λtc m L=> ?_) (λtc m L=> ?_) (λtc eF m L=> ?_) (λtc m L=> ?_) Av ym (λq tc eF m hz z fB=> ?_) mH rfl ⟨JZ,rfl⟩ (hA ns iR) (λeF atF=> ?_))
   ·rw[SA];exact pb _ _ 1
   ·rw[SA];exact pb _ _ 2
   ·rw[SA,<- eJ m.1,cY,SA];rfl
   ·rw[SA];exact pb _ _ 3
   ·rcases SV.1 fB with h'|h'
    ·exact hz z (Tf _ h')
    ·simp only[SL,S0,or_false]at h';rcases h' with rfl|rfl|rfl|rfl|rfl
     ·exact hz _ (by simp)
     ·exact hz _ (by simp)
     ·exact anU _ _ _
     ·exact hz _ (by simp)
     ·exact hz _ (by simp)
   have mo:∀(σ:S)(L:List aa),(P1 σ++L)[N+6+M.length+4]?=L[4]?:=λσ L=>pb σ L 4;have qe:∀(σ:S)(L:List aa)(y:aa),(P1 σ++L).set (N+6+M.length+4) y=P1 σ++L.set 4 y:=λσ L y=>(by rw[<- eJ σ,cY]);cases cV:bI (jn f deep) ((iK x h ns).map (dH h ns)) (σ,.ready)with
   |go m=>
    obtain⟨τ,lp⟩:=m;have im:lp=.ready:=A1 (I:=λm:S×Lp=>m.2=.ready) (A:=λ_=>True) (λs a s' _ _ e=>arN e) _ _ _ (λ_ _=>trivial) rfl cV;subst im;rw[cV]at dX;simp only[lw,dc]at dX;simp only[gH,SI];refine⟨.ready,none,_,_,_,_,_,_,_,by rw[mo];rfl,by decide,?_⟩;rw[qe,Hj];(try simp only[seval]);exact Jz oK τ .ready true _ _ dX
   |stop m=>
    obtain⟨τ,lp⟩:=m;have im:lp=.ret\/lp=.exit 3:=by
     obtain⟨_,_,q⟩:=ND cV;exact arO q
    rw[cV]at dX;rcases im with rfl|rfl
    ·simp only[lw,dc]at dX;simp only[gH,SI];refine⟨.done,some .ret,_,_,_,_,_,_,_,by rw[mo];rfl,by decide,?_⟩;rw[qe,aoy];(try simp only[seval]);exact Jz oK τ .ret false _ _ dX
    ·simp only[lw,dc]at dX;simp only[gH,SI];refine⟨.done,some (.exit 3),_,_,_,_,_,_,_,by rw[mo];rfl,by decide,?_⟩;rw[qe,aox];(try simp only[seval]);exact Jz oK τ .ready true _ _ dX
   |bad m=>
    obtain⟨τ,lp⟩:=m;rw[cV]at dX;simp only[lw,dc]at dX;simp only[gH,SI];exact aiS oK τ _ dX
  ·obtain⟨σ',lp⟩:=m;obtain⟨τ,Dr⟩:=m';obtain⟨ns,iR,rfl⟩:=ha;have e1:qf f deep (vd x h) (σ',lp) (eg h ns)=lw (bI (jn f deep) ((iK x h ns).map (dH h ns)) (σ',.ready)):=(by unfold qf;rw[L9 h4 (MW iR)]);rw[e1]at he;exact aeX hY.inv (hA ns iR) hm.1 he
  ·rcases SV.1 fB with h'|h'
   ·exact hY.ok q m.1 m'.1 (λw hw=>hz w (Tf _ hw)) z h'
   ·have hl:=hz _ (S4 _ (Td (i:=5) rfl));simp only[SL,S0,or_false]at h';rcases h' with rfl|rfl|rfl|rfl|rfl|rfl
    ·exact hz _ (S4 _ (by simp))
    ·exact hz _ (S4 _ (by simp))
    ·exact hz _ (S4 _ (by simp))
    ·exact hz _ (S4 _ (by simp))
    ·exact hz _ (S4 _ (by simp))
    ·exact hl
 obtain⟨eB,u6⟩:=adz (f:=f) (deep:=deep) (L:=vd x h) ((gD x h).map (eg h)) σ;rw[<- arT h4]at eB;have g4:∀(σ:S)(L:List aa),(Gf σ++L)[N+4]?=L[4]?:=λσ L=>hY.get σ L 4;have g5:∀(σ:S)(L:List aa),(Gf σ++L)[N+4+1]?=L[5]?:=λσ L=>hY.get σ L 5;have s4:∀(σ:S)(L:List aa) y,(Gf σ++L).set (N+4) y=Gf σ++L.set 4 y:=λσ L y=>hY.set σ L 4 y;have s5:∀(σ:S)(L:List aa) y,(Gf σ++L).set (N+4+1) y=Gf σ++L.set 5 y:=λσ L y=>hY.set σ L 5 y;have so:∀n,Lt n (.aM []):=λn=>by simp[jV]
 refine bX (ahO (x:=x) (h:=h) (N:=N+6) (ir:=N+2) (ih:=N+3) (σ:=(σ,Lp.ready)) hx hh ajH (λm L=> ?_) (λm L=> ?_) mH ⟨hI,rfl⟩ (λa ha=> ?_) ?_)
 ·rw[SA,hY.get m.1 _ 2];rfl
 ·rw[SA,hY.get m.1 _ 3];rfl
 ·obtain⟨ns,h1,rfl⟩:=Tl.1 ha;exact⟨ns,h1,rfl⟩
 cases bO:bI (qf f deep (vd x h)) ((gD x h).map (eg h)) (σ,.ready)with
 |go m=>
  obtain⟨σ',lp⟩:=m;have im:lp=.ready:=u6 _ bO;subst im;rw[bO]at eB;have aJ:=Nz (r':=.go σ') eB.symm hk;simp only[gH,SI]at aJ⊢;refine⟨.ready,none,_,_,_,_,_,_,_,by rw[g5];rfl,by decide,?_⟩;rw[s5];simp only[UE,T4];rw[Hi];(try simp only[seval]);rw[zQ (by rw[g4];rfl),zS,s4];(try simp only[seval]);rw[<- hN];exact vw hY hH so aJ
 |stop m=>
  obtain⟨σ',lp⟩:=m;have im:lp=.ret:=by
   obtain⟨_,_,q⟩:=ND bO;exact arK q
  subst im;rw[bO]at eB;have aJ:=Nz (r':=.stop σ') eB.symm hk;simp only[gH,SI]at aJ⊢;refine⟨.done,some .ret,_,_,_,_,_,_,_,by rw[g5];rfl,by decide,?_⟩;rw[s5];simp only[UE,T4];rw[aow];(try simp only[seval]);rw[zQ (by rw[g4];rfl),zS,s4];(try simp only[seval]);rw[<- hN];exact vw hY hH so aJ
 |bad m=>
  obtain⟨σ',lp⟩:=m;rw[bO]at eB;have aJ:=Nz (r':=.bad σ') eB.symm hk;simp only[gH,SI]at aJ⊢;rw[zQ (by rw[g4];rfl),zS,s4];rw[AN,<- hN];exact vw hY hH mH aJ
end
open Go.Conc Go.Proofs Go.Gg.Tk
namespace Tk
def nb (x y:Int):Int:=if x<y then -1 else if y<x then 1 else 0
def oG:List Int->List Int->Int
 |a::l,b::m=>if nb a b≠0 then nb a b else oG l m
 |[],[]=>0
 |[],_::_=> -1
 |_::_,[]=>1
def s7 (a b:List Int):Bool:=if a.take 4=b.take 4 then(if oG ((a.drop 4).take 4) ((b.drop 4).take 4)≠0 then decide (oG ((a.drop 4).take 4) ((b.drop 4).take 4)<0)else decide (oG (a.drop 8) (b.drop 8)<0))else decide (oG (a.take 4) (b.take 4)<0)
end Tk
theorem E_{ca pa ra:List AV}{xs:List Int}{o i:Nat}{x:Int}(hc:ca=pa++(xs.map iv++ra))(ho:pa.length=o)(h:xs[i]?=some x):ca.drop (o+i)=iv x::((xs.drop (i+1)).map iv++ra):=by
 subst hc ho;rw[Vw,TW (by omega),UK,show pa.length+i-pa.length=i by omega,Vw,ly h,show i-(xs.map iv).length=0 by have:=e_ h;simp;omega,Xw];rfl
section
variable {lv:Bool}{H:List aa}{k kp:AV->List aa->Prop}
theorem Qg{x:Int}(hk:k (bv false) H):bk lv SC 143 H [iv x] k kp:=by
 refine bL (rs:=[.tmp 2]) (nt:=6) Tryz.f143 λhH hA=> ?_;simp only[bt,SX];refine ak ?_;refine ai ?_;simp only[seval,bne_self_eq_false];refine bf ?_;refine cr ?_;simpa using hk
theorem ahU{x y:Int}(hk:k (iv (nb x y)) H):bk lv SC 142 H [iv x,iv y] k kp:=by
 refine bL (rs:=[.tmp 4]) (nt:=20) Tryz.f142 λhH hA=> ?_;simp only[bt,SX];refine ak ?_;refine ak ?_;refine aI ((Qg ?_));(try simp only[seval]);refine ak ?_;refine aI ((Qg ?_));(try simp only[seval]);refine ak ?_;refine aD ?_;refine aN ?_;refine ak ?_;refine aD ?_;refine aN ?_;refine ak ?_;refine aD ?_;refine⟨λh=> ?_,λh=> ?_⟩
 ·refine ak ?_;refine bf ?_;rw[nb,if_pos h]at hk;exact cr hk
 ·refine aN ?_;refine ak ?_;refine aD ?_;refine⟨λh2=> ?_,λh2=> ?_⟩
  ·refine ak ?_;refine bf ?_;rw[nb,if_neg h,if_pos h2]at hk;exact cr hk
  ·refine aN ?_;refine ak ?_;refine bf ?_;rw[nb,if_neg h,if_neg h2]at hk;exact cr hk
theorem Jl{xs ys:List Int}{ia oa ib ob ta tb:Nat}{ca cb pa ra pb rb:List AV}(ha:H[ia]?=some (.cells ca ta))(hb:H[ib]?=some (.cells cb tb))(hca:ca=pa++(xs.map iv++ra))(Lj:pa.length=oa)(hcb:cb=pb++(ys.map iv++rb))(hpb:pb.length=ob)(hl:ys.length=xs.length)(h4:xs.length<=4)(hk:k (iv (oG xs ys)) H):
  bk lv SC 138 H [.bp ia oa xs.length xs.length,.bp ib ob ys.length ys.length] k kp:=by
 refine bL (rs:=[.tmp 4]) (nt:=36) Tryz.f138 λhH hA=> ?_;simp only[bt,SX];refine ak ?_;refine ak ?_;refine cL ?_;refine sY xs.length (λi:Nat=>[(11,iv i)]) (λ_=>H) (λi=>oG xs ys=oG (xs.drop i) (ys.drop i)) rfl (λb_ dj i cV hI R hR=> ?_);refine ak ?_;refine aD ?_;refine⟨λh=> ?_,λh=> ?_⟩
 ·have bD:i<xs.length:=by omega
  obtain⟨x,hx⟩:=cD bD;obtain⟨y,hy⟩:=cD (xs:=ys) (i:=i) (by omega);have bU:SE.wrap ((i:Int)+1)=((i+1:Nat):Int):=by rw[bG _ (by omega)];rfl
  have lJ:oG xs ys=if nb x y≠0 then nb x y else oG (xs.drop (i+1)) (ys.drop (i+1)):=by rw[hI,v6 hx,v6 hy,oG]
  refine aN ?_;refine ai ?_;simp only[seval,ha,j8 bD,E_ hca Lj hx];refine ak ?_;refine aD ?_;refine⟨λh2=>by exfalso;omega,λh2=> ?_⟩;refine aN ?_;refine ai ?_;simp only[seval,hb,j8 (show i<ys.length by omega),E_ hcb hpb hy];refine ak ?_;refine aI ((ahU ?_));(try simp only[seval]);refine ak ?_;refine aD ?_;refine⟨λh3=> ?_,λh3=> ?_⟩
  ·refine ak ?_;refine bf ?_;rw[lJ,if_pos (by simpa using h3)]at hk;exact cr hk
  ·refine aN ?_;refine ai ?_;simp only[seval,bU];refine hR _ ⟨bD,?_,dn⟩;rw[lJ,if_neg (by simpa using h3)]
 ·have dF:i=xs.length:=by omega
  subst dF;refine cq ?_;refine ai ?_;simp only[seval,hl];refine aD ?_;refine⟨λh2=>by exfalso;omega,λh2=> ?_⟩;refine aN ?_;refine ak ?_;refine bf ?_;rw[hI,List.drop_length,TW (WG hl),oG]at hk;exact cr hk
theorem F.Eb:SC.underlying 83=some (.array 4 3):=by kernel_rfl
theorem F.u3:SC.underlying 3=some (.int .i64):=by kernel_rfl
theorem aeI{P:SJ}{t e:TypeId}{k0:TY}{n:Nat}{xs ys:List Int}(ht:P.underlying t=some (.array n e))(he:P.underlying e=some (.int k0))(hs:(P.info? e).map (·.size)=some 1)(hg:P.eqGuardType P.depth t=false)(hx:xs.length=n)(hy:ys.length=n)(k:AV->Prop):
  dR P .neq t (.agg (xs.map iv)) (.agg (ys.map iv)) k=k (bv (!(xs==ys))):=by
 obtain⟨i,hi,hs⟩:=Tp.1 hs;have C6:=adc ht he hi hs hx hy;have e:dR P .neq t (.agg (xs.map iv)) (.agg (ys.map iv)) k=((Wu=.eql\/Wu=.neq)/\ao (AV.raw (.agg (xs.map iv))) λX=>ao (AV.raw (.agg (ys.map iv))) λY=>zK X Y=true/\P.eqGuardType P.depth t=false/\∃e,cR P (Xm t X Y) e/\k (.val (.bool (if Wu== .neq then !e else e)))):=rfl;rw[e,yQ,yQ,AN,AN];apply propext;constructor
 ·rintro⟨_,_,_,b,h1,h2⟩
  rw[C6.uniq h1];exact h2
 ·intro h;exact⟨.inr rfl,rfl,hg,_,C6,h⟩
theorem F.i3s:(SC.info? 3).map (·.size)=some 1:=by kernel_rfl
theorem F.g83:SC.eqGuardType SC.depth 83=false:=by kernel_rfl
theorem ahT{a b:List Int}(ha:a.length=11)(hb:b.length=11)(hk:k (bv (s7 a b)) H):bk lv SC 128 H [.agg (a.map iv),.agg (b.map iv)] k kp:=by
 refine bL (rs:=[.tmp 4]) (nt:=32) Tryz.f128 λhH hA=> ?_;simp only[bt,SX];have ham:(a.map iv).length=11:=by rw[Tm,ha]
 have wl:(b.map iv).length=11:=by rw[Tm,hb]
 have ea:a.map iv=(a.take 4).map iv++(((a.drop 4).take 4).map iv++(a.drop 8).map iv):=by
  rw[<- TN,<- TN];congr 1;have:(a.drop 4).take 4++a.drop 8=a.drop 4:=by
   conv=>rhs;rw[<- Vd 4 (a.drop 4)]
   rw[ak']
  rw[this,Vd]
 have eb:b.map iv=(b.take 4).map iv++(((b.drop 4).take 4).map iv++(b.drop 8).map iv):=by
  rw[<- TN,<- TN];congr 1;have:(b.drop 4).take 4++b.drop 8=b.drop 4:=by
   conv=>rhs;rw[<- Vd 4 (b.drop 4)]
   rw[ak']
  rw[this,Vd]
 refine ak ?_;refine ai ?_;simp only[seval,ham,wl,ha,hb];have Gj:(a.take 4).length=4:=by simp[ha]
 have LK:(b.take 4).length=4:=by simp[hb]
 have LI:((a.drop 4).take 4).length=4:=by simp[ha]
 have aan:((b.drop 4).take 4).length=4:=by simp[hb]
 have LJ:(a.drop 8).length=3:=by simp[ha]
 have aao:(b.drop 8).length=3:=by simp[hb]
 rw[<- VX,<- VX,aeI F.Eb F.u3 F.i3s F.g83 Gj LK];refine aD ?_;refine⟨λh=> ?_,λh=> ?_⟩
 ·refine eU 4 ?_;simp only[seval];have c1:=λk kp=>Jl (lv:=lv) (k:=k) (kp:=kp) (H:=H++[.cells (a.map iv) 86,.cells (b.map iv) 86]) (xs:=a.take 4) (ys:=b.take 4) (ia:=H.length) (ib:=H.length+1) (oa:=0) (ob:=0) (pa:=[]) (pb:=[]) (aW H _ 0) (aW H _ 1) ea rfl eb rfl (by rw[Gj,LK]) (by rw[Gj];exact SR _);simp only[Gj,LK]at c1;refine aI ((c1 _ _ ?_));(try simp only[seval]);refine bf ?_;rw[s7,if_neg (by simpa using h)]at hk;exact lX hH hk
 ·have h:=(by simpa using h:a.take 4=b.take 4);rw[s7,if_pos h]at hk;refine aN ?_;refine eU 4 ?_;simp only[seval];have c2:=λk kp=>Jl (lv:=lv) (k:=k) (kp:=kp) (H:=H++[.cells (a.map iv) 86,.cells (b.map iv) 86]) (xs:=(a.drop 4).take 4) (ys:=(b.drop 4).take 4) (ia:=H.length) (ib:=H.length+1) (oa:=4) (ob:=4) (pa:=(a.take 4).map iv) (pb:=(b.take 4).map iv) (aW H _ 0) (aW H _ 1) ea (by simp[ha]) eb (by simp[hb]) (by rw[LI,aan]) (by rw[LI];exact SR _);simp only[LI,aan]at c2;refine aI ((c2 _ _ ?_));(try simp only[seval]);refine ak ?_;refine aD ?_;refine⟨λh2=> ?_,λh2=> ?_⟩
  ·refine ak ?_;refine bf ?_;rw[if_pos (by simpa using h2)]at hk;exact lX hH hk
  ·refine aN ?_;rw[if_neg (by simpa using h2)]at hk;refine eU 4 ?_;simp only[seval];have c3:=λk kp=>Jl (lv:=lv) (k:=k) (kp:=kp) (H:=H++[.cells (a.map iv) 86,.cells (b.map iv) 86]) (xs:=a.drop 8) (ys:=b.drop 8) (ia:=H.length) (ib:=H.length+1) (oa:=8) (ob:=8) (pa:=(a.take 4).map iv++((a.drop 4).take 4).map iv) (pb:=(b.take 4).map iv++((b.drop 4).take 4).map iv) (ra:=[]) (rb:=[]) (aW H _ 0) (aW H _ 1) (by rw[ea];simp) (by simp[ha]) (by rw[eb];simp) (by simp[hb]) (by rw[LJ,aao]) (by rw[LJ];omega);simp only[LJ,aao]at c3;refine aI ((c3 _ _ ?_));(try simp only[seval]);refine bf ?_;exact lX hH hk
end
open Go.Conc Go.Proofs Go.Gg.Tk
theorem GQ{α:Type}{g:α->AV}{ca pa ra:List AV}{xs:List α}{o i:Nat}{x:α}(hc:ca=pa++(xs.map g++ra))(ho:pa.length=o)(h:xs[i]?=some x):ca.drop (o+i)=g x::((xs.drop (i+1)).map g++ra):=by
 subst hc ho;rw[Vw,TW (by omega),UK,show pa.length+i-pa.length=i by omega,Vw,zJ h,show i-(xs.map g).length=0 by have:=e_ h;simp;omega,Xw];rfl
theorem GR{α:Type}{g:α->AV}{ca pa ra:List AV}{xs:List α}{o i:Nat}{y:α}(hc:ca=pa++(xs.map g++ra))(ho:pa.length=o)(h:i<xs.length):ca.take (o+i)++[g y]++ca.drop (o+i+1)=pa++((xs.set i y).map g++ra):=by
 subst hc ho;have h1:(pa++(xs.map g++ra)).take (pa.length+i)=pa++(xs.map g).take i:=by
  rw[List.take_append,SS (by omega),show pa.length+i-pa.length=i by omega,Tw (by simp;omega)]
 have h2:(pa++(xs.map g++ra)).drop (pa.length+i+1)=(xs.map g).drop (i+1)++ra:=by
  rw[Vw,TW (by omega),UK,show pa.length+i+1-pa.length=i+1 by omega,Wp (by simp;omega)]
 rw[h1,h2,<- NL h];simp[SA]
namespace Tk
def Kn.l (F:Kn)(mp:Nat):List AV:=bv F.has:: .mp mp::(F.aA.map (λn=>wv n)++(F.hours.map (λn=>wv n)++(F.less.map (λn=>wv n)++(F.aX.map (λn=>wv n)++F.first.map iv))))
structure bS (F:Kn):Prop where
 aA:F.aA.length=4
 hours:F.hours.length=4
 less:F.less.length=4
 aX:F.aX.length=3
 first:F.first.length=11
 mQ:∀n∈F.aA,n<65536
 nc:∀n∈F.hours,n<65536
 nm:∀n∈F.less,n<65536
 ml:∀n∈F.aX,n<65536
 h4:∀h∈F.aK,h.length=4
theorem Kn.len{F:Kn}(h:bS F)(mp:Nat):(F.l mp).length=28:=by simp[Kn.l,h.aA,h.hours,h.less,h.aX,h.first]
theorem Kn.GY{F:Kn}{mp p n:Nat}(h:F.aA[p]?=some n):(F.l mp).drop (2+p)=wv n::((F.aA.drop (p+1)).map (λn=>wv n)++(F.hours.map (λn=>wv n)++(F.less.map (λn=>wv n)++(F.aX.map (λn=>wv n)++F.first.map iv)))):=GQ (pa:=[bv F.has,.mp mp]) rfl rfl h
theorem Kn.abD{F:Kn}{mp p v:Nat}(h:p<F.aA.length):(F.l mp).take (2+p)++[wv v]++(F.l mp).drop (2+p+1)=({F with aA:=F.aA.set p v}:Kn).l mp:=GR (g:=λn=>wv n) (pa:=[bv F.has,.mp mp]) rfl rfl h
theorem Kn.Lh{F:Kn}(k:bS F){mp p n:Nat}(h:F.hours[p]?=some n):(F.l mp).drop (6+p)=wv n::((F.hours.drop (p+1)).map (λn=>wv n)++(F.less.map (λn=>wv n)++(F.aX.map (λn=>wv n)++F.first.map iv))):=GQ (pa:=bv F.has:: .mp mp::F.aA.map (λn=>wv n)) rfl (by simp[k.aA]) h
theorem Kn.aaa{F:Kn}(k:bS F){mp p v:Nat}(h:p<F.hours.length):(F.l mp).take (6+p)++[wv v]++(F.l mp).drop (6+p+1)=({F with hours:=F.hours.set p v}:Kn).l mp:=GR (g:=λn=>wv n) (pa:=bv F.has:: .mp mp::F.aA.map (λn=>wv n)) rfl (by simp[k.aA]) h
theorem Kn.Mx{F:Kn}(k:bS F){mp p n:Nat}(h:F.less[p]?=some n):(F.l mp).drop (10+p)=wv n::((F.less.drop (p+1)).map (λn=>wv n)++(F.aX.map (λn=>wv n)++F.first.map iv)):=GQ (pa:=bv F.has:: .mp mp::(F.aA.map (λn=>wv n)++F.hours.map (λn=>wv n))) (by simp[Kn.l]) (by simp[k.aA,k.hours]) h
theorem Kn.aaV{F:Kn}(k:bS F){mp p v:Nat}(h:p<F.less.length):(F.l mp).take (10+p)++[wv v]++(F.l mp).drop (10+p+1)=({F with less:=F.less.set p v}:Kn).l mp:=by
 have:=GR (g:=λn=>wv n) (ca:=F.l mp) (y:=v) (pa:=bv F.has:: .mp mp::(F.aA.map (λn=>wv n)++F.hours.map (λn=>wv n))) (ra:=F.aX.map (λn=>wv n)++F.first.map iv) (by simp[Kn.l]) (show _=10 by simp[k.aA,k.hours]) h;rw[this];simp[Kn.l]
theorem Kn.DM{F:Kn}(k:bS F){mp p n:Nat}(h:F.aX[p]?=some n):(F.l mp).drop (14+p)=wv n::((F.aX.drop (p+1)).map (λn=>wv n)++F.first.map iv):=GQ (pa:=bv F.has:: .mp mp::(F.aA.map (λn=>wv n)++(F.hours.map (λn=>wv n)++F.less.map (λn=>wv n)))) (by simp[Kn.l]) (by simp[k.aA,k.hours,k.less]) h
theorem Kn.abW{F:Kn}(k:bS F){mp p v:Nat}(h:p<F.aX.length):(F.l mp).take (14+p)++[wv v]++(F.l mp).drop (14+p+1)=({F with aX:=F.aX.set p v}:Kn).l mp:=by
 have:=GR (g:=λn=>wv n) (ca:=F.l mp) (y:=v) (pa:=bv F.has:: .mp mp::(F.aA.map (λn=>wv n)++(F.hours.map (λn=>wv n)++F.less.map (λn=>wv n)))) (ra:=F.first.map iv) (by simp[Kn.l]) (show _=14 by simp[k.aA,k.hours,k.less]) h;rw[this];simp[Kn.l]
theorem Kn.Cf{F:Kn}{mp:Nat}:(F.l mp)[0]?=some (bv F.has):=rfl
theorem Kn.ag5{F:Kn}{mp:Nat}:(F.l mp).drop 1=.mp mp::(F.aA.map (λn=>wv n)++(F.hours.map (λn=>wv n)++(F.less.map (λn=>wv n)++(F.aX.map (λn=>wv n)++F.first.map iv)))):=rfl
theorem Kn.aqn{F:Kn}{mp:Nat}:(F.l mp).take 0++[bv true]++(F.l mp).drop (0+1)=({F with has:=true}:Kn).l mp:=rfl
theorem Kn.acC{F:Kn}(k:bS F){mp:Nat}{t:List Int}(ht:t.length=11):(F.l mp).take 17++t.map iv++(F.l mp).drop (17+11)=({F with first:=t}:Kn).l mp:=by
 have e:F.l mp=(bv F.has:: .mp mp::(F.aA.map (λn=>wv n)++(F.hours.map (λn=>wv n)++(F.less.map (λn=>wv n)++F.aX.map (λn=>wv n)))))++F.first.map iv:=by simp[Kn.l]
 have hl:(bv F.has::AV.mp mp::(F.aA.map (λn=>wv n)++(F.hours.map (λn=>wv n)++(F.less.map (λn=>wv n)++F.aX.map (λn=>wv n))))).length=17:=by simp[k.aA,k.hours,k.less,k.aX]
 rw[TW (by rw[Kn.len k];omega),e,Tw (by omega),SS (by omega),SI];simp[Kn.l]
structure jK (x:aj)(t:List Int):Prop where
 len:t.length=11
 bE:mY (t.take 4)
 num:∀p,p<x.pieces.length->∃n:Nat,t[4+p]?=some (n:Int)/\n<9/\0<=jF (t.take 4) (n+t.getD 0 0)
 own:∀s,s<x.aB.length->∃o:Nat,t[8+s]?=some (o:Int)/\o<4
end Tk
def setH (hs:List (List Int)):aa:=.obj (.map (hs.zipIdx.map eO).toArray hs.length)
theorem qY{H:List aa}{i:Nat}{x:aa}(h:H[i]?=some x):H.set i x=H:=by
 apply Yj;intro j;rw[UP];split
 ·rename_i e;subst e;rw[if_pos (e_ h)];exact h.symm
 ·rfl
theorem vC{H L:List aa}{i:Nat}{x:aa}(h:i<H.length):(H++L).set i x=H.set i x++L:=U2 _ _ h
section
variable {lv:Bool}{H:List aa}{k kp:AV->List aa->Prop}
theorem Pe{F:Kn}{t:List Int}(h:bS F)(ht:t.length=11):bS (j7 F t):=by
 unfold j7;split
 ·exact h
 ·exact⟨h.aA,h.hours,h.less,h.aX,ht,h.mQ,h.nc,h.nm,h.ml,h.h4⟩
theorem Dt{l:List Nat}{i v:Nat}(h:∀n∈l,n<65536)(hv:v<65536):∀n∈l.set i v,n<65536:=λn hn=>by
 rcases UB hn with h'|rfl
 ·exact h n h'
 ·exact hv
theorem Tk.bS.DX{G:Kn}(h:bS G){i v:Nat}(hv:v<65536):bS {G with aX:=G.aX.set i v}:=⟨h.aA,h.hours,h.less,by simp[h.aX],h.first,h.mQ,h.nc,h.nm,Dt h.ml hv,h.h4⟩
theorem Tk.bS.acH{G:Kn}(h:bS G){i v:Nat}(hv:v<65536):bS {G with aA:=G.aA.set i v}:=⟨by simp[h.aA],h.hours,h.less,h.aX,h.first,Dt h.mQ hv,h.nc,h.nm,h.ml,h.h4⟩
theorem Tk.bS.acF{G:Kn}(h:bS G){i v:Nat}(hv:v<65536):bS {G with hours:=G.hours.set i v}:=⟨h.aA,by simp[h.hours],h.less,h.aX,h.first,h.mQ,Dt h.nc hv,h.nm,h.ml,h.h4⟩
theorem Tk.bS.acG{G:Kn}(h:bS G){i v:Nat}(hv:v<65536):bS {G with less:=G.less.set i v}:=⟨h.aA,h.hours,by simp[h.less],h.aX,h.first,h.mQ,h.nc,Dt h.nm hv,h.ml,h.h4⟩
theorem EG{l:List Nat}{i n v:Nat}(h:l[i]?=some n):po l i v=l.set i (n|||2^v):=by
 unfold po;rw[SD,h];rfl
theorem acE(hs:List (List Int)):setH hs=.obj (.map (hs.zipIdx.map eO).toArray hs.length):=rfl
theorem acD(hs:List (List Int))(h:List Int):setH (hs++[h])=.obj (.map ((hs.zipIdx++[(h,hs.length)]).map eO).toArray (hs.length+1)):=by
 rw[acE,List.zipIdx_append,SP];simp
theorem Eh{α:Type}{l:List α}{y:α×Nat}(h:y∈l.zipIdx):y.1∈l:=by
 obtain⟨a,b⟩:=y;have:=List.mem_zipIdx h;simp at this;rw[this.2];exact Wy _
theorem JA{x:List Int}{hs:List (List Int)}:(qv x hs.zipIdx 0=none/\x∉hs)\/(∃i b,qv x hs.zipIdx 0=some (i,.bool true)/\hs.zipIdx[i]?=some (x,b)/\x∈hs):=by
 cases h:qv x hs.zipIdx 0 with
 |none=>
  refine .inl ⟨rfl,λhm=> ?_⟩;obtain⟨i,hi⟩:=UQ.1 hm;have:(x,i)∈hs.zipIdx:=UQ.2 ⟨i,by rw[List.getElem?_zipIdx,hi];simp⟩;exact Qp h _ this rfl
 |some p=>
  obtain⟨i,v⟩:=p;obtain⟨b,_,h2,rfl⟩:=Qq h;rw[ZW]at h2;exact .inr ⟨i,b,rfl,h2,Eh (y:=(x,b)) (Td h2)⟩
theorem F.i3:∃i,SC.info? 3=some i/\i.size=1:=by
 obtain⟨i,h1,h2⟩:=Tp.1 F.i3s;exact⟨i,h1,h2⟩
theorem vA{H L:List aa}{i:Nat}{z:aa}(h:i<H.length):(H.set i z++L)[i]?=some z:=by
 rw[SY (by simpa using h),UP,if_pos rfl,if_pos h]
theorem vB{H L:List aa}{i:Nat}{z y:aa}(h:i<H.length):(H.set i z++L).set i y=H.set i y++L:=by
 rw[vC (by simpa using h),W4]
theorem aiH{x:aj}{t:List Int}{deep:Int}{fp mp:Nat}{Q:Kn}(hx:x.Ok)(ht:jK x t)(hQ:bS Q)(mF:fp≠mp)(hf:H[fp]?=some (.cells (Q.l mp) 88))(hm:H[mp]?=some (setH Q.aK))(hk:k (.aM []) ((H.set fp (.cells ((eS x deep Q t).l mp) 88)).set mp (setH (eS x deep Q t).aK))):bk lv SC 99 H [.op fp 0,x.av,.agg (t.map iv),iv deep] k kp:=by
 refine bL (rs:=[]) (nt:=135) Tryz.f99 λhH hA=> ?_;simp only[bt,SX,aj.av];have kD:=ht.len;have JQ:(t.map iv).length=11:=by rw[Tm,kD]
 have mE:=e_ hf;have CP:=e_ hm;have R_:=Kn.len hQ mp;have bT:x.l=[iv x.first,iv x.hours,iv x.am,dP x.seen,aS x.pieces,aS x.aB]:=rfl;have dE:∀(L:List aa) i,(H++L)[H.length+i]?=L[i]?:=λL i=>aW H L i;obtain⟨R1,qy⟩:∃R1,R1=j7 Q t:=⟨_,rfl⟩;have nS:bS R1:=by rw[qy];exact Pe hQ kD
 have Co:R1.aK=Q.aK:=by rw[qy];unfold j7;split<;>rfl
 obtain⟨H1,lZ⟩:∃H1,H1=H.set fp (.cells (R1.l mp) 88):=⟨_,rfl⟩;have c_:H1.length=H.length:=by rw[lZ,TE]
 have xS:H1[fp]?=some (.cells (R1.l mp) 88):=by rw[lZ,UP,if_pos rfl,if_pos mE]
 have Ft:H1[mp]?=some (setH R1.aK):=by rw[lZ,T7 mF,Co];exact hm
 have akU:∀G:Kn,∀hs:List (List Int),bM ((H1.set fp (.cells (G.l mp) 88)).set mp (setH hs)):=λG hs=>by
  have hl:((H1.set fp (.cells (G.l mp) 88)).set mp (setH hs)).length=H.length:=by rw[TE,TE,c_]
  intro z hz;rw[hl];rcases UB hz with hz|rfl
  ·rcases UB hz with hz|rfl
   ·rw[lZ]at hz;rcases UB hz with hz|rfl
    ·exact hH z hz
    ·intro a ha;simp only[Kn.l,SL,SV,Tl]at ha;rcases ha with rfl|rfl|⟨_,_,rfl⟩|⟨_,_,rfl⟩|⟨_,_,rfl⟩|⟨_,_,rfl⟩|⟨_,_,rfl⟩
     ·exact .val _
     ·exact .mp (by omega)
     all_goals exact .val _
   ·intro a ha;simp only[Kn.l,SL,SV,Tl]at ha;rcases ha with rfl|rfl|⟨_,_,rfl⟩|⟨_,_,rfl⟩|⟨_,_,rfl⟩|⟨_,_,rfl⟩|⟨_,_,rfl⟩
    ·exact .val _
    ·exact .mp (by omega)
    all_goals exact .val _
  ·trivial
 have iP:k (.aM []) ((H1.set fp (.cells ((eS x deep Q t).l mp) 88)).set mp (setH (eS x deep Q t).aK)):=by rw[lZ,W4];exact hk
 have eB:∀(G:Kn)(hs:List (List Int))(L:List aa),eS x deep Q t=G->G.aK=hs->cK H1.length ((H1.set fp (.cells (G.l mp) 88)).set mp (setH hs)++L) (.aM []) k:=λG hs L hG je=>by
  subst hG je;exact kg (Wk.refl _) rfl (by rw[TE,TE,c_];exact SR _) (akU _ _) (by simp[jV]) iP
 have aF:eS x deep Q t=(if deep=2 then{R1 with aX:=nu t x.aB.length R1.aX}else if deep=0 then{R1 with aK:=jW R1.aK (t.take 4)}else{R1 with aA:=sq t x.pieces.length R1.aA,hours:=wD t x.pieces.length R1.hours,less:=yH t x.pieces.length x.pieces.length R1.less}):=by rw[qy];rfl
 rw[aF]at eB;clear hk iP aF;refine ak ?_;refine ai ?_;simp only[seval,eI hf,Kn.Cf];refine aD ?_;refine⟨λhc=> ?ga,λhc=> ?gb⟩
 case' ga=>
  have e1:R1={Q with has:=true,first:=t}:=by rw[qy];unfold j7;rw[hc];rfl
  have eH:∀L:List aa,(H++L).set fp (.cells (({Q with has:=true}:Kn).l mp) 88)=H.set fp (.cells (({Q with has:=true}:Kn).l mp) 88)++L:=λL=>vC mE;have FA:bS {Q with has:=true}:=⟨hQ.aA,hQ.hours,hQ.less,hQ.aX,hQ.first,hQ.mQ,hQ.nc,hQ.nm,hQ.ml,hQ.h4⟩;have akA:=Kn.len FA mp;have Hr:=Kn.acC FA (mp:=mp) (t:=t) kD;have Az:TU 11 (t.map iv)=t.map iv:=SS (by omega);have akl:∀(z:aa)(L:List aa),(H.set fp z++L)[H.length+1]?=L[1]?:=λz L=>by have:=aW (H.set fp z) L 1;rwa [TE]at this
  refine pu [5,8] [0,1,2,3,4,5,6,7,8] [⟨0,false,[],[]⟩,⟨1,false,[],[([5],[5])]⟩,⟨2,false,[],[([5],[5])]⟩,⟨3,false,[],[]⟩,⟨4,false,[],[]⟩,⟨5,true,[5],[]⟩,⟨6,false,[5],[]⟩,⟨7,false,[5],[]⟩,⟨8,true,[5,8],[]⟩] (λD=>bif isDone 8 D then H1++[.cells x.l 76,.cells (t.map iv) 86]else bif isDone 5 D then H.set fp (.cells (({Q with has:=true}:Kn).l mp) 88)++[.cells x.l 76,.cells (t.map iv) 86]else H++[.cells x.l 76,.cells (t.map iv) 86]) ?_;simp only[seval,eI hf,vA mE,vB mE,vC mE,R_,akA,kD,JQ,Az,akl];have eL:(AV.val (.bool true)::(TU 16 (T1 1 (Q.l mp))++t.map iv++T1 27 (T1 1 (Q.l mp))))=R1.l mp:=by rw[e1];exact Hr
  refine⟨by rfl,by rw[Uo,R_];omega,by rw[eL,lZ],?_⟩;rw[eL,<- lZ,<- c_]
 case' gb=>
  have e1:R1=Q:=by rw[qy];unfold j7;rw[hc];rfl
  have Jb:H1=H:=by rw[lZ,e1];exact qY hf
  refine aN ?_;rw[<- Jb]
 all_goals
  clear hc e1;have l8:fp<H1.length:=by omega
  have aP:∀(L:List aa),(H1++L)[H1.length]?=L[0]?:=λL=>aW H1 L 0;have cW:∀(L:List aa),(H1++L)[H1.length+1]?=L[1]?:=λL=>aW H1 L 1;have cH:∀(z:aa)(L:List aa),(H1.set fp z++L)[H1.length]?=L[0]?:=λz L=>by have:=aW (H1.set fp z) L 0;rwa [TE]at this
  have dN:∀(z:aa)(L:List aa),(H1.set fp z++L)[H1.length+1]?=L[1]?:=λz L=>by have:=aW (H1.set fp z) L 1;rwa [TE]at this
  have Gc:∀G:Kn,G.aK=R1.aK->(H1.set fp (.cells (G.l mp) 88)).set mp (setH R1.aK)=H1.set fp (.cells (G.l mp) 88):=λG _=>qY (by rw[T7 mF];exact Ft);refine ak ?_;refine ak ?_;refine aD ?_;refine⟨λh2=> ?_,λh2=> ?_⟩
  ·
   replace h2:deep=2:=(by simpa using h2);have yo:=hx.dx;rw[if_pos h2]at eB;refine ai ?_;simp only[seval,aP,bT,aS];refine cL ?_;refine iD x.aB.length (λi:Nat=>[(30,iv i)]) (λi=>H1.set fp (.cells (({R1 with aX:=nu t i R1.aX}:Kn).l mp) 88)++[.cells x.l 76,.cells (t.map iv) 86]) (λi=>bS {R1 with aX:=nu t i R1.aX}) (λ_ _=>rfl) (by simp only[seval];simp[bw,Wk.refl]) (by rw[show ({R1 with aX:=nu t 0 R1.aX}:Kn)=R1 from rfl,qY xS];rfl) (λ_ _ _=>by simp) nS (λb_ dj i cV au R hR=> ?_);refine ak ?_;refine aD ?_;refine⟨λh3=> ?_,λh3=> ?_⟩
   ·have bD:i<x.aB.length:=(by omega);obtain⟨o,ho,ho4⟩:=ht.own i bD;have qQ:sC t i=o:=(by unfold sC;rw[SD,ho];rfl);obtain⟨n,hn⟩:=cD (xs:=nu t i R1.aX) (i:=i) (by have:=au.aX;simp only at this;omega);have CR:n<65536:=au.ml n (Td hn);have b3:(0<=(i:Int)/\(i:Int)<3)=True:=(by simp;omega);have bU:SE.wrap ((i:Int)+1)=((i+1:Nat):Int):=(by rw[bG _ (by omega)];rfl);have Aq:=Kn.DM au (mp:=mp) (p:=i) (n:=n) hn;have pP:=Kn.abW au (mp:=mp) (p:=i) (v:=n|||2^o) (e_ hn);have cN:=Kn.len au mp;refine aN ?_;refine ak ?_;refine eU 15 ?_;simp only[seval,dN,vA l8,vB l8,b3,Aq,ly ho];refine iU (wv (n|||2^o)) (bX (uD CR (show o<16 by omega) ⟨rfl,rfl⟩)) ?_;(try simp only[seval,vA l8,vB l8,b3,cN]);refine⟨by omega,?_⟩;rw[pP];refine ai ?_;simp only[seval,bU];have dl:nu t (i+1) R1.aX=(nu t i R1.aX).set i (n|||2^o):=(by rw[nu,qQ,EG hn]);refine hR _ ⟨bD,?_,?_⟩
    ·rw[dl];exact au.DX (p_ CR (xa (by omega)))
    ·rw[dl];exact dn
   ·have dF:i=x.aB.length:=(by omega);subst dF;have:=eB _ R1.aK [.cells x.l 76,.cells (t.map iv) 86] rfl rfl;rw[Gc {R1 with aX:=nu t x.aB.length R1.aX} rfl]at this;refine cq ?_;refine bf ?_;exact this
  ·replace h2:¬deep=2:=(by simpa using h2);rw[if_neg h2]at eB;refine ak ?_;refine aD ?_;refine⟨λh3=> ?_,λh3=> ?_⟩
   ·
    replace h3:deep=0:=(by simpa using h3);rw[if_pos h3]at eB;have C8:(t.take 4).length=4:=(by simp[kD]);have kJ:∀L:List aa,(H1++L)[mp]?=some (.obj (.map (R1.aK.zipIdx.map eO).toArray R1.aK.length)):=λL=>eI Ft;have hfp:∀L:List aa,(H1++L)[fp]?=some (.cells (R1.l mp) 88):=λL=>eI xS;have So:mp<H1.length:=(by omega);obtain⟨i3,qD,pS⟩:=F.i3;have JR:∀y∈R1.aK.zipIdx,y.1.length=4:=λy hy=>nS.h4 _ (Eh hy);have FO:=adf (ts:=R1.aK.zipIdx) F.Eb F.u3 qD pS C8 JR;have FK:=λb=>ada (b:=b) (k:=.i64) (d:=9998) F.Eb F.u3 qD pS C8;refine eU 6 ?_;simp only[seval,hfp,cW,kJ,Kn.ag5,kD,JQ];rw[<- VX];refine eC (yQ _) (eC rfl ⟨FK _,_,FO,?_,?_⟩)
    ·intro i v pI;rcases JA (x:=t.take 4) (hs:=R1.aK)with⟨h,_⟩|⟨i',b,h,h2,_⟩
     ·rw[h]at pI;cases pI
     ·rw[h]at pI;cases pI;rw[Tn,h2];exact ap3 _
    ·rcases JA (x:=t.take 4) (hs:=R1.aK)with⟨h,hn⟩|⟨i',b,h,h2,hn⟩
     ·rw[h,ab3,vC So];have:=eB _ _ [.cells x.l 76,.cells (t.map iv) 86] rfl rfl;rw[show jW R1.aK (t.take 4)=R1.aK++[t.take 4] by rw[jW,if_neg hn],acD]at this;rw[show H1.set fp (.cells (({R1 with aK:=R1.aK++[t.take 4]}:Kn).l mp) 88)=H1 from qY xS]at this;refine bf ?_;exact this
     ·rw[h,aoI h2,vC So];have:=eB _ _ [.cells x.l 76,.cells (t.map iv) 86] rfl rfl;rw[show jW R1.aK (t.take 4)=R1.aK by rw[jW,if_pos hn],acE]at this;rw[show H1.set fp (.cells (({R1 with aK:=R1.aK}:Kn).l mp) 88)=H1 from qY xS]at this;refine bf ?_;exact this
   ·
    replace h3:¬deep=0:=(by simpa using h3);rw[if_neg h3]at eB;refine aN ?_;have oV:=hx.eN;obtain⟨P,hP⟩:∃P:Nat->Kn,∀p,P p={R1 with aA:=sq t p R1.aA,hours:=wD t p R1.hours,less:=yH t x.pieces.length p R1.less}:=⟨_,λ_=>rfl⟩;obtain⟨P',Fz⟩:∃P':Nat->Nat->Kn,∀p q,P' p q={R1 with aA:=sq t (p+1) R1.aA,hours:=wD t (p+1) R1.hours,less:=wP t p q (yH t x.pieces.length p R1.less)}:=⟨_,λ_ _=>rfl⟩;have Ra:P 0=R1:=(by rw[hP];rfl);have hPs:∀p,P' p x.pieces.length=P (p+1):=λp=>(by rw[hP,Fz];rfl);refine ai ?_;simp only[seval,aP,bT,aS];refine cL ?_;refine iD x.pieces.length (λi:Nat=>[(62,iv i)]) (λi=>H1.set fp (.cells ((P i).l mp) 88)++[.cells x.l 76,.cells (t.map iv) 86]) (λi=>bS (P i)) (λ_ _=>rfl) (by simp only[seval];simp[bw,Wk.refl]) (by rw[Ra,qY xS];rfl) (λ_ _ _=>by simp) (by rw[Ra];exact nS) (λb_ dj p cV au R hR=> ?_);refine ak ?_;refine aD ?_;refine⟨λh=> ?_,λh=> ?_⟩
    ·have cN:p<x.pieces.length:=(by omega);obtain⟨o,ho,ho9,qQ⟩:=ht.num p cN;obtain⟨n,hn⟩:=cD (xs:=(P p).aA) (i:=p) (by have:=au.aA;omega);obtain⟨m,gA⟩:=cD (xs:=(P p).hours) (i:=p) (by have:=au.hours;omega);have CR:n<65536:=au.mQ n (Td hn);have Sg:m<65536:=au.nc m (Td gA);have b4:(0<=(p:Int)/\(p:Int)<4)=True:=(by simp;omega);have bU:SE.wrap ((p:Int)+1)=((p+1:Nat):Int):=(by rw[bG _ (by omega)];rfl);have Aq:=Kn.GY (mp:=mp) hn;have pP:=Kn.abD (mp:=mp) (p:=p) (v:=n|||2^o) (e_ hn);have Lm:=Kn.len au mp;have me:mU t p=o:=(by unfold mU;rw[SD,ho];rfl);refine aN ?_;refine ak ?_;refine eU 15 ?_;simp only[seval,dN,vA l8,vB l8,b4,Aq,ly ho];refine iU (wv (n|||2^o)) (bX (uD CR (show o<16 by omega) ⟨rfl,rfl⟩)) ?_;(try simp only[seval,vA l8,vB l8,b4,Lm]);refine⟨by omega,?_⟩;rw[pP];obtain⟨c0,x8⟩:=cD (xs:=t) (i:=0) (by omega);have FI:t.getD 0 0=c0:=(by rw[SD,x8];rfl);rw[FI]at qQ;have Rw:c0∈t.take 4:=by
      match t,kD,x8 with
      |a::t',_,x8=>cases x8;simp
     have pL:=ht.bE.lo c0 Rw;have FS:=ht.bE.hi c0 Rw;have f_:SE.wrap ((o:Int)+c0)=(o:Int)+c0:=bG _ (by omega);have ajT:(t.map iv)[0]?=some (iv c0):=(by rw[Tn,x8];rfl);obtain⟨u,hu⟩:=Int.eq_ofNat_of_zero_le qQ;have hu4:u<4:=by
      have h5:jF (t.take 4) ((o:Int)+c0)<0+(t.take 4).length:=adu;rw[ht.bE.len,hu]at h5;omega
     have hth:D5 t p=u:=by
      unfold D5;rw[SD,ho,FI];simp only[S7];rw[hu];rfl
     obtain⟨G1,xU⟩:∃G1,G1=({P p with aA:=(P p).aA.set p (n|||2^o)}:Kn):=⟨_,rfl⟩;have Cl:bS G1:=(by rw[xU];exact au.acH (p_ CR (xa (by omega))));have K2:G1.hours[p]?=some m:=(by rw[xU];exact gA);rw[<- xU];have aae:=Kn.Lh Cl (mp:=mp) K2;have aag:=Kn.aaa Cl (mp:=mp) (p:=p) (v:=m|||2^u) (e_ K2);have aaf:=Kn.len Cl mp;refine eU 22 ?_;simp only[seval,dN,vA l8,vB l8,b4,aae,ly ho,JQ,kD,f_];rw[<- VX];refine eC ajT ?_;(try simp only[seval,f_]);refine iU (iv u) (bX (Qn (h:=t.take 4) (n:=(o:Int)+c0) ht.bE.len ⟨by rw[hu],rfl⟩)) ?_;refine iU (wv (m|||2^u)) (bX (uD Sg (show u<16 by omega) ⟨rfl,rfl⟩)) ?_;(try simp only[seval,vA l8,vB l8,b4,aaf]);refine⟨by omega,?_⟩;rw[aag];have J9:({G1 with hours:=G1.hours.set p (m|||2^u)}:Kn)=P' p 0:=by
      rw[xU,Fz];simp only[hP]at hn gA⊢;rw[sq,me,EG hn,wD,hth,EG gA];rfl
     have ajG:bS (P' p 0):=(by rw[<- J9];exact Cl.acF (p_ Sg (xa (by omega))));rw[J9];clear pP Aq Lm Cl K2 aae aag aaf J9 xU hn gA au;refine ai ?_;simp only[seval,cH,bT,aS];refine cL ?_;refine iD x.pieces.length (λi:Nat=>[(108,iv i)]) (λi=>H1.set fp (.cells ((P' p i).l mp) 88)++[.cells x.l 76,.cells (t.map iv) 86]) (λi=>bS (P' p i)) (λ_ _=>rfl) (by simp only[seval];simp[bw,Wk.refl]) rfl (λ_ _ _=>by simp) ajG (λQ7 ato q As n5 R' Rc=> ?_);refine ak ?_;refine aD ?_;refine⟨λh=> ?_,λh=> ?_⟩
     ·have mI:q<x.pieces.length:=(by omega);obtain⟨o2,Sv,atA,_⟩:=ht.num q mI;have b4q:(0<=(q:Int)/\(q:Int)<4)=True:=(by simp;omega);have wI:SE.wrap ((q:Int)+1)=((q+1:Nat):Int):=(by rw[bG _ (by omega)];rfl);have dl:P' p (q+1)={P' p q with less:=if o<o2 then po (P' p q).less p q else(P' p q).less}:=by
       rw[Fz,Fz,wP];simp only[SD,ho,Sv,S7];by_cases hlt:o<o2
       ·rw[if_pos (by omega),if_pos hlt]
       ·rw[if_neg (by omega),if_neg hlt]
      refine aN ?_;refine ak ?_;refine eU 8 ?_;simp only[seval,dN,b4,b4q,ly ho,ly Sv];refine aD ?_;refine⟨λh=> ?_,λh=> ?_⟩
      ·have hlt:o<o2:=(by simpa using h);rw[if_pos hlt]at dl;obtain⟨v,hv⟩:=cD (xs:=(P' p q).less) (i:=p) (by have:=n5.less;omega);have Gl:v<65536:=n5.nm v (Td hv);have ak1:=Kn.Mx n5 (mp:=mp) hv;have ak5:=Kn.aaV n5 (mp:=mp) (p:=p) (v:=v|||2^q) (e_ hv);have ak4:=Kn.len n5 mp;rw[EG hv]at dl;refine eU 12 ?_;simp only[seval,vA l8,vB l8,b4,ak1];refine iU (wv (v|||2^q)) (bX (uD Gl (show q<16 by omega) ⟨rfl,rfl⟩)) ?_;(try simp only[seval,vA l8,vB l8,b4,ak4]);refine⟨by omega,?_⟩;rw[ak5,<- dl];refine ai ?_;simp only[seval,wI];refine Rc _ ⟨mI,?_,?_⟩
       ·rw[dl];exact n5.acG (p_ Gl (xa (by omega)))
       ·exact dn
      ·have hlt:¬o<o2:=(by simpa using h);rw[if_neg hlt]at dl;refine aN ?_;refine ai ?_;simp only[seval,wI];rw[show ({P' p q with less:=(P' p q).less}:Kn)=P' p q from rfl]at dl;refine Rc _ ⟨mI,?_,?_⟩
       ·rw[dl];exact n5
       ·rw[dl];exact dn
     ·have hqe:q=x.pieces.length:=(by omega);subst hqe;rw[hPs]at n5⊢;refine cq ?_;refine ai ?_;simp only[seval,bU];exact hR _ ⟨cN,n5,dn⟩
    ·have dQ:p=x.pieces.length:=(by omega);subst dQ;have:=eB _ R1.aK [.cells x.l 76,.cells (t.map iv) 86] rfl rfl;rw[<- hP,Gc (P _) (by rw[hP])]at this;refine cq ?_;exact this
end
open Go.Conc Go.Proofs Go.Gg.Tk
namespace Tk
def io (F:Kn)(hs:List (List Int))(G:Kn):Kn:=if G.has then⟨true,hs.foldl jW F.aK,mj F.aA G.aA,mj F.hours G.hours,mj F.less G.less,mj F.aX G.aX,if F.has=false\/s7 G.first F.first then G.first else F.first⟩else F
def oo (l m:List Nat):Nat->List Nat
 |0=>l
 |i+1=>(oo l m i).set i ((oo l m i).getD i 0|||m.getD i 0)
end Tk
theorem G9{l m:List Nat}{i a b:Nat}(ha:(oo l m i)[i]?=some a)(hb:m[i]?=some b):oo l m (i+1)=(oo l m i).set i (a|||b):=by
 rw[oo,SD,SD,ha,hb];rfl
theorem an2{l m:List Nat}(h:l.length=m.length){i:Nat}(hi:i<=l.length):oo l m i=mj (l.take i) (m.take i)++l.drop i:=by
 induction i with
 |zero=>simp[oo,mj]
 |succ i ih=>
  have hl:i<l.length:=by omega
  have hm:i<m.length:=by omega
  have e1:(mj (l.take i) (m.take i)).length=i:=by simp[mj];omega
  have e2:(oo l m i).getD i 0=l[i]:=by
   rw[ih (by omega),SD,S8 (by omega),e1];simp[hl]
  rw[oo,e2,ih (by omega),T9 _ _ (by omega),e1,Va,SD,SO hm,S7,TR hl,T4,VJ,VJ,SO hl,SO hm,YL,YL];unfold mj;rw[List.zipWith_append (by simp;omega)];simp
theorem G8{l m:List Nat}(h:l.length=m.length){n:Nat}(hn:l.length=n):oo l m n=mj l m:=by
 subst hn;rw[an2 h (SR _),h,TQ,TW (by omega),SI,<- h,TQ]
theorem ahL{lv:Bool}{H:List aa}{k kp:AV->List aa->Prop}{fp mp mg:Nat}{Q G:Kn}(hQ:bS Q)(hG:bS G)(mF:fp≠mp)(ww:mg≠mp)(hf:H[fp]?=some (.cells (Q.l mp) 88))(hm:H[mp]?=some (setH Q.aK))(hg:H[mg]?=some (setH G.aK))(wB:G.aK.Nodup)(hk:∀hs:List (List Int),hs.Perm G.aK->k (.aM []) ((H.set fp (.cells ((io Q hs G).l mp) 88)).set mp (setH (io Q hs G).aK))):bk lv SC 102 H [.op fp 0,.agg (G.l mg)] k kp:=by
 refine bL (rs:=[]) (nt:=121) Tryz.f102 λhH hA=> ?_;simp only[bt,SX];have mE:=e_ hf;have CP:=e_ hm;have kX:=e_ hg;have FQ:=Kn.len hG mg;have F':=Kn.len hQ mp;have tF:(G.l mg).drop 17=G.first.map iv:=by
  have e:G.l mg=(bv G.has:: .mp mg::(G.aA.map (λn=>wv n)++(G.hours.map (λn=>wv n)++(G.less.map (λn=>wv n)++G.aX.map (λn=>wv n)))))++G.first.map iv:=by simp[Kn.l]
  rw[e,Wp (by simp[hG.aA,hG.hours,hG.less,hG.aX]),TW (by simp[hG.aA,hG.hours,hG.less,hG.aX])];rfl
 refine ak ?_;refine ai ?_;simp only[seval,Kn.Cf];refine aD ?_;refine⟨λh=> ?_,λh=> ?_⟩
 ·
  have KI:G.has=false:=by simpa using h
  have:=hk G.aK (ab' _);rw[io,KI]at this;simp only[TM,if_false]at this;rw[qY hf,qY hm]at this;refine bf ?_;exact jN hH (Wk.refl _) (by simp[jV]) this
 ·have KI:G.has=true:=by simpa using h
  refine aN ?_;obtain⟨R1,qy⟩:∃R1,R1=(if Q.has=false\/s7 G.first Q.first=true then{Q with first:=G.first}else Q):=⟨_,rfl⟩;have nS:bS R1:=by
   rw[qy];split
   ·exact⟨hQ.aA,hQ.hours,hQ.less,hQ.aX,hG.first,hQ.mQ,hQ.nc,hQ.nm,hQ.ml,hQ.h4⟩
   ·exact hQ
  have Co:R1.aK=Q.aK:=by rw[qy];split<;>rfl
  obtain⟨H1,lZ⟩:∃H1,H1=H.set fp (.cells (R1.l mp) 88):=⟨_,rfl⟩;have aP:∀(L:List aa),(H++L)[H.length]?=L[0]?:=λL=>aW H L 0;have cH:∀(z:aa)(L:List aa),(H.set fp z++L)[H.length]?=L[0]?:=λz L=>by have:=aW (H.set fp z) L 0;rwa [TE]at this
  have kD:=hG.first;have Az:TU 11 (G.first.map iv)=G.first.map iv:=SS (by rw[Tm];omega);have Hr:TU 17 (Q.l mp)++G.first.map iv++T1 28 (Q.l mp)=({Q with first:=G.first}:Kn).l mp:=Kn.acC hQ kD;have hqd:(Q.l mp).drop 17=Q.first.map iv:=by
   have e:Q.l mp=(bv Q.has:: .mp mp::(Q.aA.map (λn=>wv n)++(Q.hours.map (λn=>wv n)++(Q.less.map (λn=>wv n)++Q.aX.map (λn=>wv n)))))++Q.first.map iv:=(by simp[Kn.l]);rw[e,Wp (by simp[hQ.aA,hQ.hours,hQ.less,hQ.aX]),TW (by simp[hQ.aA,hQ.hours,hQ.less,hQ.aX])];rfl
  have aaq:TU 11 (Q.first.map iv)=Q.first.map iv:=SS (by rw[Tm,hQ.first];exact SR _);have c_:H1.length=H.length:=by rw[lZ,TE]
  cases F_:Q.has
  case' true=>
   refine eU 12 ?_;simp only[seval,eI hf,Kn.Cf,F_,aP,tF,hqd,FQ,F',Az,aaq];refine⟨by omega,by have:=hQ.first;omega,?_⟩;refine aI ((ahT hG.first hQ.first ?_));(try simp only[seval]);refine aD ?_;refine⟨λhb=> ?tt,λhb=> ?tf⟩
  case' false=>
   refine eU 12 ?_;simp only[seval,eI hf,Kn.Cf,F_,aP,tF,hqd,FQ,F',Az,aaq];refine aD ?_
  case' tt=>
   have e1:R1={Q with first:=G.first}:=(by rw[qy,if_pos (.inr hb)]);refine ai ?_;simp only[seval,eI hf,aP,tF,FQ,F',Az,kD,vC mE];rw[Hr,<- e1,<- lZ,<- c_]
  case' tf=>
   have e1:R1=Q:=(by rw[qy,if_neg (by rw[F_,hb];simp)]);have Jb:H1=H:=(by rw[lZ,e1];exact qY hf);refine aN ?_;rw[<- Jb]
  case' false=>
   have e1:R1={Q with first:=G.first}:=(by rw[qy,if_pos (.inl F_)]);refine ai ?_;simp only[seval,eI hf,aP,tF,FQ,F',Az,kD,vC mE];rw[Hr,<- e1,<- lZ,<- c_]
  all_goals
   clear e1;have l8:fp<H1.length:=(by omega);have xS:H1[fp]?=some (.cells (R1.l mp) 88):=(by rw[lZ,UP,if_pos rfl,if_pos mE]);have Ft:H1[mp]?=some (setH R1.aK):=(by rw[lZ,T7 mF,Co];exact hm);have RN:fp≠mg:=λe=>(by subst e;rw[hf]at hg;cases hg);have h1g:H1[mg]?=some (setH G.aK):=(by rw[lZ,T7 RN];exact hg);obtain⟨R2,tp⟩:∃R2,R2=({R1 with has:=true}:Kn):=⟨_,rfl⟩;have eL:AV.val (.bool true)::T1 1 (R1.l mp)=R2.l mp:=(by rw[tp];rfl);have J':R2.aK=Q.aK:=(by rw[tp];exact Co);have uH:bS R2:=(by rw[tp];exact⟨nS.aA,nS.hours,nS.less,nS.aX,nS.first,nS.mQ,nS.nc,nS.nm,nS.ml,nS.h4⟩);refine ai ?_;simp only[seval,eI xS,vC l8,Kn.aqn];refine⟨by have:=Kn.len nS mp;omega,?_⟩;rw[eL];obtain⟨B,hB⟩:∃B:Kn->List (List Int)->List aa,∀K hs,B K hs=(H1.set fp (.cells (K.l mp) 88)).set mp (setH hs):=⟨_,λ_ _=>rfl⟩;have bA:∀K hs,(B K hs).length=H1.length:=λK hs=>(by rw[hB,TE,TE]);have QY:∀K hs (L:List aa),(B K hs++L)[mp]?=some (.obj (.map (hs.zipIdx.map eO).toArray hs.length)):=λK hs L=>by
    rw[SY (by rw[bA];omega),hB,UP,if_pos rfl,if_pos (by rw[TE];omega)];rfl
   have Fv:∀K hs (L:List aa),(B K hs++L)[mg]?=some (.obj (.map (G.aK.zipIdx.map eO).toArray G.aK.length)):=λK hs L=>by
    rw[SY (by rw[bA];omega),hB,T7 (λe=>ww e.symm),T7 RN,h1g];rfl
   have aU:∀K hs (L:List aa),(B K hs++L)[fp]?=some (.cells (K.l mp) 88):=λK hs L=>by
    rw[SY (by rw[bA];omega),hB,T7 (λe=>mF e.symm),UP,if_pos rfl,if_pos (by omega)]
   have ajE:∀K hs pQ (L:List aa),(B K hs++L).set mp (setH pQ)=B K pQ++L:=λK hs pQ L=>by
    rw[U2 _ _ (by rw[bA];omega),hB,hB,W4]
   have Fw:∀K hs K' (L:List aa),(B K hs++L).set fp (.cells (K'.l mp) 88)=B K' hs++L:=λK hs K' L=>by
    rw[U2 _ _ (by rw[bA];omega),hB,hB,List.set_comm _ _ (λe=>mF e.symm),W4]
   have QZ:H1.set fp (.cells (R2.l mp) 88)=B R2 R2.aK:=by
    rw[hB];symm;exact qY (by rw[T7 mF,Ft,J',Co])
   have aP:∀K hs (L:List aa),(B K hs++L)[H1.length]?=L[0]?:=λK hs L=>(by rw[<- bA K hs];exact aW _ L 0);have cW:∀K hs (L:List aa),(B K hs++L)[H1.length+1]?=L[1]?:=λK hs L=>(by rw[<- bA K hs];exact aW _ L 1);have kV:∀K hs (L:List aa),(B K hs++L)[H1.length+2]?=L[2]?:=λK hs L=>(by rw[<- bA K hs];exact aW _ L 2);have KF:(G.l mg).drop 1=.mp mg::((G.l mg).drop 2):=rfl;have Q9:∀K:Kn,(K.l mp).drop 1=.mp mp::((K.l mp).drop 2):=λ_=>rfl;have cM:∀(K:Kn)(hs:List (List Int)),bM (B K hs):=λK hs=>by
    intro z hz;rw[bA];rw[hB]at hz;rcases UB hz with hz|rfl
    ·rcases UB hz with hz|rfl
     ·rw[lZ]at hz;rcases UB hz with hz|rfl
      ·exact c_▸hH z hz
      ·intro a ha;simp only[Kn.l,SL,SV,Tl]at ha;rcases ha with rfl|rfl|⟨_,_,rfl⟩|⟨_,_,rfl⟩|⟨_,_,rfl⟩|⟨_,_,rfl⟩|⟨_,_,rfl⟩
       ·exact .val _
       ·exact .mp (by omega)
       all_goals exact .val _
     ·intro a ha;simp only[Kn.l,SL,SV,Tl]at ha;rcases ha with rfl|rfl|⟨_,_,rfl⟩|⟨_,_,rfl⟩|⟨_,_,rfl⟩|⟨_,_,rfl⟩|⟨_,_,rfl⟩
      ·exact .val _
      ·exact .mp (by omega)
      all_goals exact .val _
    ·trivial
   have eB:∀(hs:List (List Int))(K:Kn)(L:List aa),hs.Perm G.aK->io Q hs G=K->cK H1.length (B K K.aK++L) (.aM []) k:=λhs K L hp hK=>by
    have:=hk hs hp;rw[hK]at this;subst hK;refine kg (Wk.refl _) rfl (by rw[bA];exact SR _) (cM _ _) (by simp[jV]) ?_;rw[hB,lZ,W4];exact this
   rw[QZ];clear hk QZ;refine ai ?_;simp only[seval,aP,KF,Fv];rw[bA];have Rt:∀K hs (L:List aa) z,(B K hs++L).set (H1.length+1) z=B K hs++L.set 1 z:=λK hs L z=>by
    rw[T9 _ _ (by rw[bA];omega),bA,TS]
   have ajS:∀K hs (L:List aa) z,(B K hs++L).set (H1.length+2) z=B K hs++L.set 2 z:=λK hs L z=>by
    rw[T9 _ _ (by rw[bA];omega),bA,TS]
   obtain⟨ts,dG⟩:∃ts,ts=G.aK.zipIdx:=⟨_,rfl⟩;obtain⟨ck,FL⟩:∃ck,ck=G.aK.length:=⟨_,rfl⟩;rw[<- dG,<- FL]at Fv;rw[<- FL];have hb:∀y∈ts,y.2<ck:=λy hy=>(by rw[dG]at hy;have:=List.snd_lt_add_of_mem_zipIdx hy;omega);have CS:(ts.map (·.2)).Nodup:=(by rw[dG,show (λy:List Int×Nat=>y.2)=Prod.snd from rfl,List.zipIdx_map_snd];exact List.nodup_range');have h4:∀y∈ts,y.1.length=4:=λy hy=>(by rw[dG]at hy;exact hG.h4 _ (Eh hy));have fW:=Pm ts ck hb;have LN:ts.map (·.1)=G.aK:=(by rw[dG,show (λy:List Int×Nat=>y.1)=Prod.fst from rfl,List.zipIdx_map_fst]);clear dG;obtain⟨ac,FD⟩:∃ac:List (List Int×Nat)->List (List Int),∀vs,ac vs=vs.foldl (λa y=>jW a y.1) R2.aK:=⟨_,λ_=>rfl⟩;have Rm:ac []=R2.aK:=(by rw[FD];rfl);have Kc:∀vs y,ac (vs++[y])=jW (ac vs) y.1:=λvs y=>(by rw[FD,FD,ZN];rfl);obtain⟨i3,qD,pS⟩:=F.i3;refine cL ?_;refine zx (measure λvs:List (List Int×Nat)=>ts.length-vs.length).wf (λvs=>[]) (λvs=>B R2 (ac vs)++[.cells (G.l mg) 88,.iter mg ck (vs.map (·.2)).toArray ck]) (λvs=>(vs.map (·.2)).Nodup/\(∀y∈vs,y∈ts)/\∀h∈ac vs,h.length=4) [] (λ_ _=>rfl) (by simp) (by rw[Rm];rfl) (λ_ _=>by simp[bA]) ⟨by simp,by simp,by rw[Rm,J'];exact hQ.h4⟩ (λb_ dj vs au R hR=> ?_);refine ai ?_;simp only[seval,cW,Fv,Rt];refine⟨fW.elim .inl (λh=> .inr (.inl h)),λe he hn=> ?_,λhs=> ?_⟩
   ·obtain⟨y,hy,rfl⟩:∃y∈ts,eO y=e:=(by simpa using he);refine aD ?_;refine aN ?_;refine cL ?_;have tj:=h4 y hy;have Kk:(eO y).born=y.2:=rfl;have hlen:(y.1.map iv).length=4:=(by simp[tj]);have Kv:T1 4 [AV.val (SF SE 0),AV.val (SF SE 0),AV.val (SF SE 0),AV.val (SF SE 0)]=[]:=rfl;refine ai ?_;simp only[seval,cW,Fv,Rt,ajS,kV,bA,Array.back?_push,Kk,Qs CS hy,abF,tj,hlen,Kv];refine eU 10 ?_;simp only[seval,aU,Q9,QY,kV,hlen,tj];have aap:TU 4 (y.1.map iv)=y.1.map iv:=SS (by omega);have JR:∀z∈(ac vs).zipIdx,z.1.length=4:=λz hz=>au.2.2 _ (Eh hz);have FO:=adf (ts:=(ac vs).zipIdx) F.Eb F.u3 qD pS tj JR;have FK:=λb=>ada (b:=b) (k:=.i64) (d:=9998) F.Eb F.u3 qD pS tj;have F9:((vs.map (·.2)).toArray.push y.2)=((vs++[y]).map (·.2)).toArray:=(by simp);have LU:y.2∉vs.map (·.2):=(by simpa[eO]using hn);have tL:((vs++[y]).map (·.2)).Nodup/\(∀z∈vs++[y],z∈ts)/\∀h∈ac (vs++[y]),h.length=4:=by
     refine⟨?_,λz hz=> ?_,λh hh=> ?_⟩
     ·rw[TN,U4];refine⟨au.1,by simp,λa ha b hb=> ?_⟩;simp at hb;subst hb;intro e;subst e;exact LU ha
     ·rcases SV.1 hz with h|h
      ·exact au.2.1 z h
      ·rw[S9.1 h];exact hy
     ·rw[Kc,jW]at hh;split at hh
      ·exact au.2.2 _ hh
      ·rcases SV.1 hh with h'|h'
       ·exact au.2.2 _ h'
       ·rw[S9.1 h'];exact tj
    have hlen:vs.length<ts.length:=by
     have h1:(vs++[y]).Nodup:=Dy _ tL.1;have:=h1.length_le_of_subset tL.2.1;simp at this;omega
    have rZ:ts.length-(vs++[y]).length<ts.length-vs.length:=(by simp;omega);have F4:∀sn,bM (B R2 (ac (vs++[y]))++[aa.cells (G.l mg) 88,aa.iter mg ck sn ck]):=λsn z hz=>by
     rcases SV.1 hz with h|h
     ·exact(cM _ _ z h).mono (by simp)
     ·have JY:∀a∈G.l mg,Lt H1.length a:=λa ha=>by
       simp only[Kn.l,SL,SV,Tl]at ha;rcases ha with rfl|rfl|⟨_,_,rfl⟩|⟨_,_,rfl⟩|⟨_,_,rfl⟩|⟨_,_,rfl⟩|⟨_,_,rfl⟩
       ·exact .val _
       ·exact .mp (by omega)
       all_goals exact .val _
      simp only[SL,S0,or_false]at h;rcases h with rfl|rfl
      ·intro a ha;exact(JY a ha).mono (by simp[bA])
      ·show mg<_;simp[bA];omega
    rw[aap];refine eC F.OG (eC (yQ _) ⟨FK _,_,FO,?_⟩);rcases JA (x:=y.1) (hs:=ac vs)with⟨h,CU⟩|⟨i',b,h,h2,CU⟩
    ·rw[h];(try simp only[seval,AV.found]);refine ak ?_;refine aD ?_;refine eU 5 ?_;simp only[seval,aU,Q9,QY,kV,hlen,tj];rw[aap];refine eC (yQ _) (eC rfl ⟨FK _,_,FO,?_,?_⟩)
     ·intro i v pI;rw[h]at pI;cases pI
     ·rw[h,ab3,<- acD,ajE,show ac vs++[y.1]=ac (vs++[y]) by rw[Kc,jW,if_neg CU],F9];refine hR _ ⟨vs++[y],rZ,tL,?_⟩;exact A0 (qS rfl rfl) (by simp only[seval]<;>simp[bw,Wk.refl]) (F4 _) (by simp[fe])
    ·rw[h];(try simp only[seval,AV.found]);refine ak ?_;refine aD ?_;refine aN ?_;rw[show ac vs=ac (vs++[y]) by rw[Kc,jW,if_pos CU],F9];refine hR _ ⟨vs++[y],rZ,tL,?_⟩;exact A0 (qS rfl rfl) (by simp only[seval]<;>simp[bw,Wk.refl]) (F4 _) (by simp[fe])
   ·have hp:vs.Perm ts:=acp au.1 CS au.2.1 λy hy=>by
     have:=hs (eO y) (by simp;exact⟨y.1,y.2,hy,rfl⟩) (hb y hy);simpa[eO]using this
    refine aD ?_;refine cq ?_;obtain⟨K,hK⟩:∃K:Nat->Nat->Kn,∀i j,K i j={R2 with aA:=oo R2.aA G.aA i,hours:=oo R2.hours G.hours i,less:=oo R2.less G.less i,aX:=oo R2.aX G.aX j}:=⟨_,λ_ _=>rfl⟩;have Q8:K 0 0=R2:=(by rw[hK];rfl);refine ak ?_;refine cL ?_;refine iD 4 (λi:Nat=>[(57,iv i)]) (λi=>B (K i 0) (ac vs)++[.cells (G.l mg) 88,.iter mg ck (vs.map (·.2)).toArray ck]) (λi=>bS (K i 0)) (λ_ _=>rfl) (by simp only[seval];simp[bw,Wk.refl]) (by rw[Q8]) (λ_ _ _=>by simp[bA]) (by rw[Q8];exact uH) (λatl atp i cV uZ R hR=> ?_);refine ak ?_;refine aD ?_;refine⟨λh=> ?_,λh=> ?_⟩
    ·have bD:i<4:=(by omega);obtain⟨a1,rM⟩:=cD (xs:=(K i 0).aA) (i:=i) (by have:=uZ.aA;omega);obtain⟨a2,Cq⟩:=cD (xs:=(K i 0).hours) (i:=i) (by have:=uZ.hours;omega);obtain⟨a3,FC⟩:=cD (xs:=(K i 0).less) (i:=i) (by have:=uZ.less;omega);obtain⟨c1,dA⟩:=cD (xs:=G.aA) (i:=i) (by have:=hG.aA;omega);obtain⟨c2,cU⟩:=cD (xs:=G.hours) (i:=i) (by have:=hG.hours;omega);obtain⟨c3,d_⟩:=cD (xs:=G.less) (i:=i) (by have:=hG.less;omega);have Dl:=uZ.mQ _ (Td rM);have la2:=uZ.nc _ (Td Cq);have la3:=uZ.nm _ (Td FC);have Dn:=hG.mQ _ (Td dA);have lc2:=hG.nc _ (Td cU);have lc3:=hG.nm _ (Td d_);have b4:(0<=(i:Int)/\(i:Int)<4)=True:=(by simp;omega);have bU:SE.wrap ((i:Int)+1)=((i+1:Nat):Int):=(by rw[bG _ (by omega)];rfl);refine aN ?_;refine ak ?_;obtain⟨Ka,Cn⟩:∃Ka,Ka=({K i 0 with aA:=(K i 0).aA.set i (a1|||c1)}:Kn):=⟨_,rfl⟩;have G0:bS Ka:=(by rw[Cn];exact uZ.acH (p_ Dl Dn));have sa:=Kn.abD (F:=K i 0) (mp:=mp) (p:=i) (v:=a1|||c1) (e_ rM);rw[<- Cn]at sa;refine eU 13 ?_;simp only[seval,aU,aP,b4,Kn.GY rM,Kn.GY dA,BL,G_ Dl Dn,Kn.len uZ mp];refine⟨by omega,?_⟩;rw[sa,Fw];obtain⟨Kb,Fx⟩:∃Kb,Kb=({Ka with hours:=Ka.hours.set i (a2|||c2)}:Kn):=⟨_,rfl⟩;have G3:bS Kb:=(by rw[Fx];exact G0.acF (p_ la2 lc2));have uL:Ka.hours[i]?=some a2:=(by rw[Cn];exact Cq);have sb:=Kn.aaa G0 (mp:=mp) (p:=i) (v:=a2|||c2) (e_ uL);rw[<- Fx]at sb;refine eU 13 ?_;simp only[seval,aU,aP,b4,Kn.Lh G0 uL,Kn.Lh hG cU,BL,G_ la2 lc2,Kn.len G0 mp];refine⟨by omega,?_⟩;rw[sb,Fw];have FG:Kb.less[i]?=some a3:=(by rw[Fx,Cn];exact FC);have sc:=Kn.aaV G3 (mp:=mp) (p:=i) (v:=a3|||c3) (e_ FG);have xV:({Kb with less:=Kb.less.set i (a3|||c3)}:Kn)=K (i+1) 0:=by
      rw[Fx,Cn,hK (i+1)];simp only[hK]at rM Cq FC⊢;rw[G9 rM dA,G9 Cq cU,G9 FC d_]
     have MZ:bS (K (i+1) 0):=(by rw[<- xV];exact G3.acG (p_ la3 lc3));rw[xV]at sc;refine eU 13 ?_;simp only[seval,aU,aP,b4,Kn.Mx G3 FG,Kn.Mx hG d_,BL,G_ la3 lc3,Kn.len G3 mp];refine⟨by omega,?_⟩;rw[sc,Fw];refine ai ?_;simp only[seval,bU];exact hR _ ⟨bD,MZ,dn⟩
    ·have dF:i=4:=(by omega);subst dF;refine cq ?_;refine ak ?_;refine cL ?_;refine iD 3 (λi:Nat=>[(103,iv i)]) (λj=>B (K 4 j) (ac vs)++[.cells (G.l mg) 88,.iter mg ck (vs.map (·.2)).toArray ck]) (λj=>bS (K 4 j)) (λ_ _=>rfl) (by simp only[seval];simp[bw,Wk.refl]) rfl (λ_ _ _=>by simp[bA]) uZ (λatm atq j pJ Ao R hR=> ?_);refine ak ?_;refine aD ?_;refine⟨λh=> ?_,λh=> ?_⟩
     ·have fE:j<3:=(by omega);obtain⟨a1,rM⟩:=cD (xs:=(K 4 j).aX) (i:=j) (by have:=Ao.aX;omega);obtain⟨c1,dA⟩:=cD (xs:=G.aX) (i:=j) (by have:=hG.aX;omega);have Dl:=Ao.ml _ (Td rM);have Dn:=hG.ml _ (Td dA);have b3:(0<=(j:Int)/\(j:Int)<3)=True:=(by simp;omega);have bU:SE.wrap ((j:Int)+1)=((j+1:Nat):Int):=(by rw[bG _ (by omega)];rfl);refine aN ?_;refine ak ?_;have sa:=Kn.abW Ao (mp:=mp) (p:=j) (v:=a1|||c1) (e_ rM);have xV:({K 4 j with aX:=(K 4 j).aX.set j (a1|||c1)}:Kn)=K 4 (j+1):=by
       rw[hK 4 (j+1)];simp only[hK]at rM⊢;rw[G9 rM dA]
      have MZ:bS (K 4 (j+1)):=(by rw[<- xV];exact Ao.DX (p_ Dl Dn));rw[xV]at sa;refine eU 13 ?_;simp only[seval,aU,aP,b3,Kn.DM Ao rM,Kn.DM hG dA,BL,G_ Dl Dn,Kn.len Ao mp];refine⟨by omega,?_⟩;rw[sa,Fw];refine ai ?_;simp only[seval,bU];exact hR _ ⟨fE,MZ,dn⟩
     ·have KW:j=3:=(by omega);subst KW;refine cq ?_;have Ln:(vs.map (·.1)).Perm G.aK:=by
       have:=hp.map (·.1);rw[LN]at this;exact this
      have ajJ:ac vs=(vs.map (·.1)).foldl jW Q.aK:=(by rw[FD,J',List.foldl_map]);have hJ:io Q (vs.map (·.1)) G={K 4 3 with aK:=ac vs}:=by
       have e2:R2=⟨true,Q.aK,Q.aA,Q.hours,Q.less,Q.aX,if Q.has=false\/s7 G.first Q.first=true then G.first else Q.first⟩:=by
        rw[tp,qy];split<;>rfl
       rw[io,if_pos KI,hK,G8 (by rw[uH.aA,hG.aA]) uH.aA,G8 (by rw[uH.hours,hG.hours]) uH.hours,G8 (by rw[uH.less,hG.less]) uH.less,G8 (by rw[uH.aX,hG.aX]) uH.aX,ajJ,e2]
      have:=eB (vs.map (·.1)) _ [.cells (G.l mg) 88,.iter mg ck (vs.map (·.2)).toArray ck] Ln hJ;rw[show B ({K 4 3 with aK:=ac vs}:Kn) (ac vs)=B (K 4 3) (ac vs) by rw[hB,hB];rfl]at this;exact this
open Go.Conc Go.Proofs Go.Gg.Tk
namespace Tk
theorem BP{l:List Nat}{i v:Nat}:(po l i v).length=l.length:=by simp[po]
theorem EH{l:List Nat}{i v:Nat}(h:∀n∈l,n<65536)(hv:v<16):∀n∈po l i v,n<65536:=by
 refine Dt h (p_ ?_ (xa hv));rw[SD];cases hi:l[i]?with
 |none=>exact(by decide:0<65536)
 |some a=>exact h _ (Td hi)
theorem arj{x:aj}{t:List Int}(ht:jK x t){p:Nat}(hp:p<x.pieces.length):mU t p<16:=by
 obtain⟨n,h1,h2,_⟩:=ht.num p hp;unfold mU;rw[SD,h1];show n<16;omega
theorem ari{t:List Int}(h:t.length=11){p:Nat}:D5 t p<16:=by
 unfold D5;have h5:jF (t.take 4) (t.getD (4+p) 0+t.getD 0 0)<0+(t.take 4).length:=adu;have:(t.take 4).length=4:=by simp[h]
 omega
theorem ark{x:aj}{t:List Int}(ht:jK x t){s:Nat}(hs:s<x.aB.length):sC t s<16:=by
 obtain⟨n,h1,h2⟩:=ht.own s hs;unfold sC;rw[SD,h1];show n<16;omega
theorem abV{x:aj}{t:List Int}(ht:jK x t){l:List Nat}(hl:∀n∈l,n<65536):∀{s:Nat},s<=x.aB.length->(nu t s l).length=l.length/\∀n∈nu t s l,n<65536
 |0,_=>⟨rfl,hl⟩
 |s+1,h=>by
  obtain⟨h1,h2⟩:=abV ht hl (s:=s) (by omega);exact⟨BP.trans h1,EH h2 (ark ht (by omega))⟩
theorem abz{x:aj}{t:List Int}(ht:jK x t){l:List Nat}(hl:∀n∈l,n<65536):∀{s:Nat},s<=x.pieces.length->(sq t s l).length=l.length/\∀n∈sq t s l,n<65536
 |0,_=>⟨rfl,hl⟩
 |s+1,h=>by
  obtain⟨h1,h2⟩:=abz ht hl (s:=s) (by omega);exact⟨BP.trans h1,EH h2 (arj ht (by omega))⟩
theorem Sz{t:List Int}(ht:t.length=11){l:List Nat}(hl:∀n∈l,n<65536):∀{s:Nat},(wD t s l).length=l.length/\∀n∈wD t s l,n<65536
 |0=>⟨rfl,hl⟩
 |s+1=>by
  obtain⟨h1,h2⟩:=Sz ht hl (s:=s);exact⟨BP.trans h1,EH h2 (ari ht)⟩
theorem aaU{t:List Int}{p:Nat}{l:List Nat}(hl:∀n∈l,n<65536):∀{q:Nat},q<=4->(wP t p q l).length=l.length/\∀n∈wP t p q l,n<65536
 |0,_=>⟨rfl,hl⟩
 |q+1,h=>by
  obtain⟨h1,h2⟩:=aaU hl (q:=q) (t:=t) (p:=p) (by omega);unfold wP;split
  ·exact⟨BP.trans h1,EH h2 (by omega)⟩
  ·exact⟨h1,h2⟩
theorem aaT{t:List Int}{k:Nat}(hk:k<=4){l:List Nat}(hl:∀n∈l,n<65536):∀{p:Nat},(yH t k p l).length=l.length/\∀n∈yH t k p l,n<65536
 |0=>⟨rfl,hl⟩
 |p+1=>by
  obtain⟨h1,h2⟩:=aaT hk hl (p:=p) (t:=t);obtain⟨h3,h4⟩:=aaU h2 (t:=t) (p:=p) hk;exact⟨h3.trans h1,h4⟩
theorem ab0{hs:List (List Int)}{h:List Int}(h1:∀y∈hs,y.length=4)(h2:h.length=4):∀y∈jW hs h,y.length=4:=λy hy=>by
 unfold jW at hy;split at hy
 ·exact h1 y hy
 ·rcases SV.1 hy with h'|h'
  ·exact h1 y h'
  ·rw[S9.1 h'];exact h2
theorem NW{x:aj}{deep:Int}{Q:Kn}{t:List Int}(hx:x.Ok)(ht:jK x t)(hQ:bS Q):bS (eS x deep Q t):=by
 have hB:=Pe hQ ht.len;unfold eS;dsimp only;generalize j7 Q t=R at hB;split
 ·obtain⟨h1,h2⟩:=abV ht hB.ml (SR _);exact⟨hB.aA,hB.hours,hB.less,h1.trans hB.aX,hB.first,hB.mQ,hB.nc,hB.nm,h2,hB.h4⟩
 ·split
  ·exact⟨hB.aA,hB.hours,hB.less,hB.aX,hB.first,hB.mQ,hB.nc,hB.nm,hB.ml,ab0 hB.h4 (by simp[ht.len])⟩
  ·obtain⟨h1,h2⟩:=abz ht hB.mQ (SR _);obtain⟨h3,h4⟩:=Sz ht.len hB.nc (s:=x.pieces.length);obtain⟨h5,h6⟩:=aaT (t:=t) hx.eN hB.nm (p:=x.pieces.length);exact⟨h1.trans hB.aA,h3.trans hB.hours,h5.trans hB.less,hB.aX,hB.first,h2,h4,h6,hB.ml,hB.h4⟩
theorem N6{x:aj}{deep:Int}{h t:List Int}(ht:t∈jG x deep h):∃ns∈gD x h,t∈(iK x h ns).map (dH h ns):=by
 have key:t∈((gD x h).map λns=>(iK x h ns).map λos=>dH h ns os).flatten:=by
  unfold jG at ht;dsimp only at ht;split at ht
  ·exact Xv ht
  ·split at ht
   ·obtain⟨l,h1,h2⟩:=XH.1 ht;obtain⟨m,h3,rfl⟩:=Tl.1 h1;exact XH.2 ⟨m,h3,Xv h2⟩
   ·exact ht
 obtain⟨l,h1,h2⟩:=XH.1 key;obtain⟨ns,h3,rfl⟩:=Tl.1 h1;exact⟨ns,h3,h2⟩
theorem Dk:bS Kn.zero:=by
 have h0:∀k:Nat,∀n∈TG k 0,n<65536:=λk n h=>by rw[(Xu.1 h).2];decide
 exact⟨rfl,rfl,rfl,rfl,rfl,h0 4,h0 4,h0 4,h0 3,λh hh=>by cases hh⟩
theorem JK{x:aj}{deep:Int}(hx:x.Ok):∀{ts:List (List Int)}{Q:Kn},(∀t∈ts,jK x t)->bS Q->bS (ts.foldl (eS x deep) Q)
 |[],Q,_,h=>h
 |t::ts,Q,ht,h=>by rw[UX];exact JK hx (λu hu=>ht u (by simp[hu])) (NW hx (ht t (by simp)) h)
end Tk
theorem yD{K:Kn}{mp m:Nat}(h:mp<m):∀a∈K.l mp,Lt m a:=λa ha=>by
 simp only[Kn.l,SL,SV,Tl]at ha;rcases ha with rfl|rfl|⟨_,_,rfl⟩|⟨_,_,rfl⟩|⟨_,_,rfl⟩|⟨_,_,rfl⟩|⟨_,_,rfl⟩
 ·exact .val _
 ·exact .mp h
 all_goals exact .val _
theorem GC{K:Kn}{mp m:Nat}(h:∀a∈K.l mp,Lt m a):mp<m:=by
 cases h (.mp mp) (by simp[Kn.l]);assumption
def cs:Ua->Ua
 |.seq _ c=>c
 |_=> .skip
def cf:Ua->Ua
 |.seq c _=>c
 |_=> .skip
noncomputable def aaI:Ua:=ar'.body.getD .skip
def vf (x:aj)(bh:Nat)(deep:Int)(c:Nat)(w:SQ):List (Nat×AV):=[(12,.fn (.func 86) [] [.op 2 0,.op 3 0]),(5,.op 1 0),(0,.val w),(1,.rp x.l),(2,.rp [iv bh]),(3,.rp [iv deep]),(4,.rp [.val (.chan (some c))])]
def wM (x:aj)(bh:Nat)(K:Kn):List aa:=[setH K.aK,.cells (K.l 0) 88,.cells x.l 76,.cells [iv bh] 3]
theorem al2{lv:Bool}{x:aj}{bh c:Nat}{w:SQ}{deep:Int}{bs:List UW}(hx:x.Ok)(me:bh<=3)(hA:∀h∈kZ x bh,mY h/\∀ns∈gD x h,∀a∈(iK x h ns).map (dH h ns),jK x a)(Φ:an->AS->List Nat->Prop)(hΦ:Φ .normal ⟨vf x bh deep c w,wM x bh (h_ x deep bh)++[.obj (.deferred (some [])),.gone]⟩ [4]):
  kP lv SC 25 bs (cs (cf (cs (cs aaI)))) ⟨vf x bh deep c w,wM x bh Kn.zero⟩ [] Φ:=by
 unfold aaI ar';dsimp only[S7,cs,cf];refine xB ?_;refine IE (by rfl) λl fn T ag bo hT xZ qB=> ?_;(try simp only[seval,wM]);simp only[vf,iv]at hT;have bT:x.l=[iv x.first,iv x.hours,iv x.am,dP x.seen,aS x.pieces,aS x.aB]:=rfl;obtain⟨Gf,nR⟩:∃Gf:Kn->List aa,∀K,Gf K=[setH K.aK,.cells (K.l 0) 88,.cells x.l 76,.cells [iv bh] 3,.obj (.deferred (some [])),.loop l .ready none fn T 25 #[13] ag bo 4]:=⟨_,λ_=>rfl⟩;have JY:∀K,(Gf K).length=6:=λK=>by rw[nR];rfl
 have ajF:∀m K K',(∀z∈Gf K,fh m z)->∀z∈Gf K',fh m z:=λm K K' hz z fB=>by
  rw[nR]at hz fB;have h1:=hz (.cells (K.l 0) 88) (by simp);simp only[SL,S0,or_false]at fB;rcases fB with rfl|rfl|rfl|rfl|rfl|rfl
  ·trivial
  ·exact yD (GC h1)
  ·exact hz _ (by simp)
  ·exact hz _ (by simp)
  ·exact hz _ (by simp)
  ·exact hz _ (by simp)
 have hY:j6 lv SC (.fn (.yield l) [] []) (λK h=> .go ((jG x deep h).foldl (eS x deep) K)) Gf 6 bS (λh=>mY h/\∀ns∈gD x h,∀a∈(iK x h ns).map (dH h ns),jK x a) (.aM []):=by
  refine⟨λK h M k kp hK ha dX=> ?_,λK h K' hK ha he=> ?_,JY,ajF,rfl,rfl,rfl⟩
  ·obtain⟨pH,C9⟩:=ha;have h4:=pH.len;have nQ:(h.map iv).length=4:=(by rw[Tm,h4]);obtain⟨Lo,lC⟩:∃Lo,Lo=aa.loop l .busy none fn T 25 #[13] ag bo 4:=⟨_,rfl⟩;obtain⟨P1,dD⟩:∃P1:Kn->List aa,∀K,P1 K=[setH K.aK,.cells (K.l 0) 88,.cells x.l 76,.cells [iv bh] 3,.obj (.deferred (some [])),Lo]++M:=⟨_,λ_=>rfl⟩;have eJ:∀K,(P1 K).length=6+M.length:=λK=>(by rw[dD];simp;omega);have pg:∀(K:Kn)(L:List aa)(i:Nat),i<6->(P1 K++L)[i]?=[setH K.aK,aa.cells (K.l 0) 88,.cells x.l 76,.cells [iv bh] 3,.obj (.deferred (some [])),Lo][i]?:=λK L i KQ=>by
    rw[dD,SA,SY (by simpa using KQ)]
   have pb:∀(K:Kn)(L:List aa)(i:Nat),(P1 K++L)[6+M.length+i]?=L[i]?:=λK L i=>(by rw[<- eJ K,aW]);have wX:∀(K:Kn)(L:List aa),(P1 K++L)[6+M.length]?=L[0]?:=λK L=>pb K L 0;have qe:∀(K:Kn)(L:List aa)(y:aa),(P1 K++L).set (6+M.length+4) y=P1 K++L.set 4 y:=λK L y=>(by rw[<- eJ K,cY]);have s5:∀(K:Kn)(L:List aa) y,(P1 K++L).set 5 y=[setH K.aK,.cells (K.l 0) 88,.cells x.l 76,.cells [iv bh] 3,.obj (.deferred (some [])),y]++M++L:=λK L y=>(by rw[dD];rfl);have AL:∀(K K':Kn)(L L':List aa),L'.length=L.length->(∀q,(∀z∈L,fh q z)->∀z∈L',fh q z)->bM (P1 K++L)->bM (P1 K'++L'):=λK K' L L' hl hL hH z hz=>by
    have hlen:(P1 K'++L').length=(P1 K++L).length:=(by simp[eJ,hl]);rw[hlen];rcases SV.1 hz with h'|h'
    ·rw[dD]at h';rcases SV.1 h' with h'|h'
     ·have h1:=hH (.cells (K.l 0) 88) (by rw[dD];simp);have hq:∀w∈[setH K.aK,aa.cells (K.l 0) 88,.cells x.l 76,.cells [iv bh] 3,.obj (.deferred (some [])),Lo],fh (P1 K++L).length w:=λw hw=>hH w (by rw[dD,SA];exact Tf _ hw);simp only[SL,S0,or_false]at h';rcases h' with rfl|rfl|rfl|rfl|rfl|rfl
      ·trivial
      ·exact yD (GC h1)
      ·exact hq _ (by simp)
      ·exact hq _ (by simp)
      ·exact hq _ (by simp)
      ·exact hq _ (by simp)
     ·exact hH z (by rw[dD];simp[h'])
    ·exact hL _ (λw hw=>hH w (S4 _ hw)) z h'
   simp only[dc]at dX;rw[nR]at dX;rw[nR];subst hT xZ qB;refine vY (id:=5) (by rfl) rfl (by kernel_rfl) λoK JU=> ?_;simp only[sI];have wq:T1 4 [iv 0,iv 0,iv 0,iv 0]=[]:=rfl;refine ai ?_;simp only[seval,vf,h4,wq];unfold uq;refine⟨none,fn,_,25,#[13],_,_,_,by rfl,?_⟩;dsimp only;simp only[UE,T4];rw[<- lC];have xT:M.length+1+1+1+1+1+1=6+M.length:=(by omega);rw[xT];have yc:∀z:aa,(setH K.aK::aa.cells (K.l 0) 88::aa.cells x.l 76::aa.cells [AV.val (SF SE ↑bh)] 3::aa.obj (aub (some []))::Lo::(M++[z]))=P1 K++[z]:=λz=>(by rw[dD];rfl);rw[yc];refine ai ?_;simp only[seval,bT,wX,h4,nQ];rw[SS (i:=4) (l:=h.map iv) (by rw[nQ];exact SR _)];refine aI ((Ju (x:=x) (h:=h) (deep:=deep) ?_));(try simp only[seval]);refine cL ?_;have qF:∀(K:Kn)(a b c d:aa),(P1 K++[a,b,c,d]).length=6+M.length+4:=λK a b c d=>(by simp[eJ]);refine EL 5 (by rfl) (by show (P1 K++_)[5]?=_;rw[pg K _ 5 (by omega),lC];rfl) λl2 e9 T2 gV gW oL x6 x7=> ?_;simp only[seval];rw[eJ]at oL⊢;have xY:j6 lv SC (.fn (.yield l2) [] []) (λK t=> .go (eS x deep K t)) (λK=>P1 K++[.cells (h.map iv) 83,.cells x.l 76,.cells (h.map iv) 83,.cells [iv deep] 3,.loop l2 .ready none e9 T2 25 #[18] gV gW 4]) (6+M.length+5) bS (jK x) (.aM []):=by
    refine⟨λK' t M2 k2 yE J4 ht lH=> ?_,λK' t Br J4 ht he=> ?_,λK'=>by simp[eJ],λq K' Br hz z fB=> ?_,rfl,rfl,rfl⟩
    ·have qP:=ht.len;have AA:(t.map iv).length=11:=(by rw[Tm,qP]);obtain⟨qj,tn⟩:∃Lo,Lo=aa.loop l2 .busy none e9 T2 25 #[18] gV gW 4:=⟨_,rfl⟩;obtain⟨Q1,gK⟩:∃Q1:Kn->List aa,∀K,Q1 K=P1 K++([.cells (h.map iv) 83,.cells x.l 76,.cells (h.map iv) 83,.cells [iv deep] 3,qj]++M2):=⟨_,λ_=>rfl⟩;obtain⟨C,hC⟩:∃C,C=6+M.length+5+M2.length:=⟨_,rfl⟩;have J_:∀K,(Q1 K).length=C:=λK=>(by rw[gK,hC];simp[eJ];omega);have mo:∀(K:Kn)(L:List aa),(P1 K++L)[6+M.length+4]?=L[4]?:=λK L=>pb K L 4;have q0:∀(K:Kn)(L:List aa),(Q1 K++L)[0]?=some (setH K.aK):=λK L=>(by rw[gK,SA];exact pg K _ 0 (by omega));have q1:∀(K:Kn)(L:List aa),(Q1 K++L)[1]?=some (.cells (K.l 0) 88):=λK L=>(by rw[gK,SA];exact pg K _ 1 (by omega));have q4:∀(K:Kn)(L:List aa),(Q1 K++L)[6+M.length+4]?=some qj:=λK L=>(by rw[gK,SA,mo];rfl);have qc:∀(K:Kn)(L:List aa),(Q1 K++L)[C]?=L[0]?:=λK L=>(by rw[<- J_ K];exact aW _ L 0);have Nv:∀(K:Kn)(L:List aa)(y:aa),(Q1 K++L).set (6+M.length+4) y=(P1 K++([.cells (h.map iv) 83,.cells x.l 76,.cells (h.map iv) 83,.cells [iv deep] 3,y]++M2))++L:=λK L y=>(by rw[gK,SA,qe];simp);have apk:∀(K K':Kn)(L:List aa),((Q1 K++L).set 1 (.cells (K'.l 0) 88)).set 0 (setH K'.aK)=Q1 K'++L:=λK K' L=>(by rw[gK,gK,dD,dD];rfl);have fY:∀(Br:Kn),bM (P1 K'++([.cells (h.map iv) 83,.cells x.l 76,.cells (h.map iv) 83,.cells [iv deep] 3,.loop l2 .ready none e9 T2 25 #[18] gV gW 4]++M2))->bM (P1 Br++([.cells (h.map iv) 83,.cells x.l 76,.cells (h.map iv) 83,.cells [iv deep] 3,.loop l2 .ready none e9 T2 25 #[18] gV gW 4]++M2)):=λBr iF=>AL K' Br _ _ rfl (λq hz=>hz) iF;simp only[dc]at lH;have KC:∀z:aa,P1 K'++(aa.cells (U5 iv h) 83::aa.cells x.l 76::aa.cells (U5 iv h) 83::aa.cells [AV.val (SF SE deep)] 3::qj::(M2++[z]))=Q1 K'++[z]:=λz=>(by rw[gK];simp[iv]);subst oL x6 x7;rw[SA];refine vY (id:=6+M.length+4) (by rw[mo];rfl) rfl (by kernel_rfl) λrK JV=> ?_;simp only[sI];have CE:T1 11 [iv 0,iv 0,iv 0,iv 0,iv 0,iv 0,iv 0,iv 0,iv 0,iv 0,iv 0]=[]:=rfl;refine ai ?_;simp only[seval,qP,CE];unfold uq;refine⟨none,e9,_,25,#[18],_,_,_,by rw[mo];rfl,?_⟩;dsimp only;rw[qe];simp only[UE,T4];rw[<- tn];have Cj:(P1 K').length+(M2.length+1+1+1+1+1)=C:=(by rw[eJ,hC];omega);rw[Cj];have jd:∀z:aa,(P1 K'++aa.cells (U5 iv h) 83::aa.cells x.l 76::aa.cells (U5 iv h) 83::aa.cells [AV.val (SF SE deep)] 3::qj::(M2++[z]))=Q1 K'++[z]:=KC;rw[jd];refine ai ?_;simp only[seval,bT,qc,qP,AA];rw[SS (i:=11) (l:=t.map iv) (by rw[AA];exact SR _)];refine aI ((aiH (x:=x) (t:=t) (deep:=deep) (fp:=1) (mp:=0) (Q:=K') hx ht J4 (by decide) (q1 K' _) (q0 K' _) ?_));rw[apk];(try simp only[seval]);show pn _ _ _ _ _ _ _;refine⟨l2,.busy,none,e9,_,25,#[18],_,_,4,by show (Q1 _++_)[_]?=_;rw[q4,tn],?_⟩;show cK C ((Q1 _++_).set _ _) _ k2;rw[Nv];rw[SA]at lH;exact kg (G:=[.cells (t.map iv) 86]) (Wk.refl _) rfl (by rw[hC];simp[eJ];omega) (fY _ rK) (.val _) lH
    ·cases he;exact NW hx ht J4
    ·rcases SV.1 fB with h'|h'
     ·have h1:=hz (.cells (K'.l 0) 88) (by rw[dD];simp);rw[dD]at h';rcases SV.1 h' with h'|h'
      ·simp only[SL,S0,or_false]at h';rcases h' with rfl|rfl|rfl|rfl|rfl|rfl
       ·trivial
       ·exact yD (GC h1)
       all_goals exact hz _ (by rw[dD];simp)
      ·exact hz z (by rw[dD];simp[h'])
     ·exact hz z (S4 _ h')
   refine bX (Jx (x:=x) (h:=h) (deep:=deep) (ir:=6+M.length+1) (ih:=6+M.length+1+1) (id:=6+M.length+1+2) (σ:=K) hx pH xY (λK L=> ?_) (λK L=> ?_) (λK L=> ?_) (λn=>by simp[jV]) hK (λa ha=>ha.len) C9 ?_)
   ·rw[SA];exact pb _ _ 1
   ·rw[SA];exact pb _ _ 2
   ·rw[SA];exact pb _ _ 3
   rw[DO (g:=eS x deep) (λ_ _=>rfl)];simp only[gH,SI];have mo:∀(K:Kn)(L:List aa),(P1 K++L)[6+M.length+4]?=L[4]?:=λK L=>pb K L 4;refine⟨.ready,none,_,_,_,_,_,_,_,by rw[mo];rfl,by decide,?_⟩;rw[qe,Hj];(try simp only[seval]);show pn _ _ _ _ _ _ _;have atn:=lC;refine⟨l,.busy,none,fn,_,25,#[13],_,_,4,by show (P1 _++_)[_]?=_;rw[pg _ _ 5 (by omega),lC];rfl,?_⟩;show cK (6+M.length) ((P1 _++_).set _ _) _ k;rw[s5];refine kg (G:=[.cells (h.map iv) 83,.cells x.l 76,.cells (h.map iv) 83,.cells [iv deep] 3,.gone]) (Wk.refl _) rfl (by simp;omega) ?_ (.val _) dX;intro z hz;have h1:=oK (.cells (K.l 0) 88) (by simp);have hlen:∀(y:aa),([setH (ab_ (eS x deep) K (jG x deep h)).aK,aa.cells ((ab_ (eS x deep) K (jG x deep h)).l 0) 88,.cells x.l 76,.cells [iv bh] 3,.obj (.deferred (some [])),y]++M).length=(setH K.aK::aa.cells (K.l 0) 88::aa.cells x.l 76:: .cells [iv bh] 3:: .obj (.deferred (some []))::y::M).length:=λy=>rfl;rcases SV.1 hz with h'|h'
   ·simp only[SL,S0,or_false]at h';rcases h' with rfl|rfl|rfl|rfl|rfl|rfl
    ·trivial
    ·exact yD (GC h1)
    all_goals exact oK _ (by simp)
   ·exact oK z (by simp[h'])
  ·cases he;exact JK hx (λt ht=>by obtain⟨ns,h1,h2⟩:=N6 ht;exact ha.2 ns h1 t h2) hK
 have hgo:bI (λK h=>dJ.go ((jG x deep h).foldl (eS x deep) K)) (kZ x bh) Kn.zero=.go (h_ x deep bh):=by
  rw[DO (g:=λK h=>(jG x deep h).foldl (eS x deep) K) (λ_ _=>rfl),h_,List.foldl_flatMap]
 refine IL (by kernel_rfl) ?_;have e0:=nR Kn.zero;simp only[iv]at e0;rw[<- e0];refine Jv (lv:=lv) (x:=x) (bh:=bh) (N:=6) (ir:=2) (it:=3) (σ:=Kn.zero) hx hY (λK L=>by rw[nR];rfl) (λK L=>by rw[nR];rfl) me (λn=>by simp[jV]) Dk hA ?_;rw[hgo];simp only[gH,SI];refine⟨.ready,none,_,_,_,_,_,_,_,by rw[nR];rfl,by decide,?_⟩;rw[nR,Hi];exact hΦ
open Go.Conc
inductive Ht where
 |z
 |s (f:To->Ht)
inductive Bp:Ht->Ht->Prop where
 |mk (f:To->Ht) (w:To):Bp (f w) (.s f)
theorem alA:WellFounded Bp:=by
 refine⟨λh=> ?_⟩;induction h with
 |z=>exact⟨_,λy hy=>by cases hy⟩
 |s f ih=>exact⟨_,λy hy=>by cases hy with|mk _ w=>exact ih w⟩
inductive lV (P:SJ):Ht->View->SG->Prop where
 |step {f:To->Ht} {V V₁:View} {g:SG} (G':To->SG) (W':To->To) (E':To->Array Ur) (V':To->View) (hs:g.status=.running) (hg:ej V V₁)
   (h1:∀w,Sat V₁ w->stepG P false g w=.go (G' w) (W' w) (E' w)) (h2:∀w,Sat V₁ w->dq V₁ w (V' w) (W' w) (E' w)) (h3:∀w,Sat V₁ w->lV P (f w) (V' w) (G' w)):lV P (.s f) V g
 |send {h:Ht} {V V₁:View} {g:SG} (c Wg:Nat) (sp:Spec) (S:List Spec) (v z:SQ) (B:Nat->Bool) (hs:g.status=.running) (hg:ej V V₁) (hr:V₁.role=.work c Wg (sp::S)) (hd:V₁.deaf=0) (ho:g.offers=none)
   (h1:∀w,Sat V₁ w->stepG P false g w=.comm g #[scase c v z] true .send w #[]) (h2:sp v V₁.ab (λb=>if B b then V₁.own b else none))
   (h3:lV P h {V₁ with own:=λb=>if B b then none else V₁.own b,role:=.work c Wg S} (T6 g undef)):lV P (.s λ_=>h) V g
 |done {V V₁:View} {g:SG} (c Wg:Nat) (hg:ej V V₁) (hr:V₁.role=.work c Wg []) (hd:V₁.deaf=0) (h1:Et P Wg g):lV P (.s λ_=> .z) V g
 |slip {h:Ht} {V V₁:View} {g g':SG} (c Wg:Nat) (hs:g.status=.running) (hg:ej V V₁) (hr:V₁.role=.work c Wg []) (h1:∀w st,Sat V₁ w->WgAt P Wg w st 0->stepG P false g w=.go g' w #[]) (h3:lV P h V₁ g'):lV P (.s λ_=>h) V g
theorem lV.running{P:SJ}{h:Ht}{V:View}{g:SG}(k:lV P h V g):g.status=.running:=by
 cases k with
 |step _ _ _ _ hs=>exact hs
 |send _ _ _ _ _ _ _ hs=>exact hs
 |done _ _ _ _ _ h1=>exact h1.1
 |slip _ _ hs=>exact hs
open Classical in
theorem asb(P:SJ):zd P false (λV g=>∃h,lV P h V g)where
 step V g hs h:=by
  have hc:∀w,∃h' g' w' es V',Sat V w->stepG P false g w=.go g' w' es/\dq V w V' w' es/\lV P h' V' g':=by
   intro w;by_cases hw:Sat V w
   ·obtain⟨g',w',es,V',h1,h2,h',h3⟩:=h w hw;exact⟨h',g',w',es,V',λ_=>⟨h1,h2,h3⟩⟩
   ·exact⟨.z,g,w,#[],V,λx=>absurd x hw⟩
  have pD:=λw=>(hc w).choose_spec.choose_spec.choose_spec.choose_spec.choose_spec;exact⟨.s λw=>(hc w).choose,.step (λw=>(hc w).choose_spec.choose) (λw=>(hc w).choose_spec.choose_spec.choose) (λw=>(hc w).choose_spec.choose_spec.choose_spec.choose)
   (λw=>(hc w).choose_spec.choose_spec.choose_spec.choose_spec.choose) hs (ej.refl V) (λw hw=>(pD w hw).1) (λw hw=>(pD w hw).2.1) (λw hw=>(pD w hw).2.2)⟩
 ghost V V' g hg h:=by
  obtain⟨h,hk⟩:=h;cases hk with
  |step a b c d e f x y z=>exact⟨_,.step a b c d e (hg.trans f) x y z⟩
  |send a b c d e f m n o p q r s t u=>exact⟨_,.send a b c d e f m n (hg.trans o) p q r s t u⟩
  |done a b o p q r=>exact⟨_,.done a b (hg.trans o) p q r⟩
  |slip a b f o p q r=>exact⟨_,.slip a b f (hg.trans o) p q r⟩
 send V g c Wg sp S v z B h1 h2 h3 h4 h5 h6 h7:=by
  obtain⟨h,hk⟩:=h7;exact⟨_,.send c Wg sp S v z B h3 (ej.refl V) h1 h2 h4 h5 h6 hk⟩
 done V g c Wg h1 h2 h3:=⟨_,.done c Wg (ej.refl V) h1 h2 h3⟩
 slip V g g' c Wg h1 h2 h3 h4:=by
  obtain⟨h,hk⟩:=h4;exact⟨_,.slip c Wg h2 (ej.refl V) h1 h3 hk⟩
structure zq where
 a:Nat
 h:Ht
 n:Nat
def rq:zq->zq->Prop:=λx y=>x.a<y.a\/(x.a=y.a/\(Bp x.h y.h\/(x.h=y.h/\x.n<y.n)))
theorem apq:WellFounded rq:=by
 refine⟨λ⟨a,h,n⟩=> ?_⟩;induction a using Yi generalizing h n with
 |_ a iha=>
  induction h using alA.induction generalizing n with
  |_ h ihh=>
   induction n using Yi with
   |_ n L7=>
    refine⟨_,λ⟨a',h',n'⟩ hlt=> ?_⟩;rcases hlt with x|⟨rfl,x|⟨rfl,x⟩⟩
    ·exact iha a' x h' n'
    ·exact ihh h' x n'
    ·exact L7 n' x
def BC (N:Nat)(f' f:Nat->zq):Prop:=∃i,i<N/\rq (f' i) (f i)/\∀j,j≠i->f' j=f j
theorem aqx(N:Nat):WellFounded (BC N):=by
 refine⟨?_⟩;induction N with
 |zero=>intro f;exact⟨_,λf' ⟨i,hi,_⟩=>by omega⟩
 |succ N ih=>
  have key:∀x:zq,∀f,f N=x->Acc (BC (N+1)) f:=by
   intro x;induction x using apq.induction with
   |_ x ihx=>
    intro f hf;have inner:∀f,Acc (BC N) f->f N=x->Acc (BC (N+1)) f:=by
     intro f ha;induction ha with
     |intro f _ L6=>
      intro hf;refine⟨_,λf' ⟨i,hi,hlt,ho⟩=> ?_⟩;by_cases fL:i=N
      ·subst fL;exact ihx (f' i) (hf▸hlt) f' rfl
      ·exact L6 f' ⟨i,by omega,hlt,ho⟩ ((ho N (Ne.symm fL)).trans hf)
    exact inner f (ih f) hf
  exactλf=>key (f N) f rfl
def Bx (N:Nat)(x y:(Nat->zq)×Nat):Prop:=BC N x.1 y.1\/(x.1=y.1/\x.2<y.2)
theorem abh(N:Nat):WellFounded (Bx N):=by
 refine⟨λ⟨f,n⟩=> ?_⟩;induction f using(aqx N).induction generalizing n with
 |_ f L6=>
  induction n using Yi with
  |_ n L7=>
   refine⟨_,λ⟨f',n'⟩ hlt=> ?_⟩;rcases hlt with x|⟨x,y⟩
   ·exact L6 f' x n'
   ·have x':f'=f:=x;subst x';exact L7 n' y
open Go.ConcN
structure TI (t:Un)(B N:Nat)(rd wr:Nat->Loc->Prop)(Sh:Loc->Prop)(act:Nat->Prop)(ic:Nat):Prop where
 nr:∀said,¬Race said t
 low:∀op∈t,op.act.low B
 gs:∀op∈t,op.g<N
 norel:∀op∈t,∀a,op.act≠ .mark (.release a)
 kr:∀i,i<N->∀l,rd i l->PermW t i l
 kw:∀i,i<N->∀l,wr i l->Perm t i l
 sp:∀idx a,touchAt t idx=some a->Sh a.loc->(a.kind=.plain->∀i,act i->Wm t i idx)/\(a.kind=.said->Wm t ic idx)
def Fit (B:Nat)(rd wr:Nat->Loc->Prop)(Sh:Loc->Prop)(act:Nat->Prop)(ic i:Nat)(x:YH):Prop:=
 (Sh x.loc/\x.kind=.atomic/\act i)\/(Sh x.loc/\x.kind=.said/\i=ic/\act i)\/(¬Sh x.loc/\(wr i x.loc\/(rd i x.loc/\x.write=false)\/¬x.loc.low B))
theorem am5{B:Nat}{m:MemAct}(h:m.low B){x:YH}(hx:m.touch?=some x):x.loc.low B:=by
 cases m with
 |access e=>simp only[Wd,Tj]at hx;subst hx;exact h
 |mark m=>cases m<;>simp[Wd]at hx<;>(subst hx;exact h)
 |_=>simp[Wd]at hx
theorem N5{t:Un}{B:Nat}(h:∀op∈t,op.act.low B){idx:Nat}{a:YH}(ha:touchAt t idx=some a):a.loc.low B:=by
 obtain⟨x,hx,Gr⟩:=UT ha;exact am5 (h x (XR hx)) Gr
theorem A9{t u:Un}{idx:Nat}{a:YH}(h:touchAt (t++u) idx=some a):touchAt t idx=some a\/(t.size<=idx/\∃op∈u,(t++u)[idx]?=some op/\op.act.touch?=some a):=by
 obtain⟨x,hx,Gr⟩:=UT h;rcases Xg hx with⟨_,jU⟩|⟨hi,hu⟩
 ·exact .inl (by rw[touchAt_of jU];exact Gr)
 ·exact .inr ⟨hi,x,hu,hx,Gr⟩
theorem TI.app{t:Un}{B N B':Nat}{rd wr rd' wr':Nat->Loc->Prop}{Sh:Loc->Prop}{act:Nat->Prop}{ic:Nat}(h:TI t B N rd wr Sh act ic){u:Un}{i:Nat}(hi:i<N)(hu:∀op∈u,op.g=i)
  (hf:∀op∈u,∀x,op.act.touch?=some x->Fit B rd wr Sh act ic i x) (hl:∀op∈u,op.act.low B') (hB:B<=B') (hn:∀op∈u,∀a,op.act≠ .mark (.release a))
  (Lv:∀j l,j≠i->rd' j l->rd j l) (sh:∀j l,j≠i->wr' j l->wr j l) (hri:∀l,rd' i l->l.low B->rd i l\/wr i l) (yy:∀l,wr' i l->l.low B->wr i l)
  (ex:∀l j,j≠i->(wr i l->¬rd j l/\¬wr j l)/\(rd i l->¬wr j l)) (Hy:∀l j,Sh l->¬rd j l/\¬wr j l) (aa0:∀j l,rd j l\/wr j l->l.low B):
  TI (t++u) B' N rd' wr' Sh act ic where
 nr said:=by
  refine noRace_append (h.nr said) hu λidx a ha op ay b hb hc=> ?_;have bi:=hc;obtain⟨c_,_,KZ,qF⟩:=hc;rcases hf op ay b hb with⟨h1,h2,h3⟩|⟨h1,h2,h3,h4⟩|⟨_,h2|⟨h2,h3⟩|h2⟩
  ·rw[h2]at qF;rcases qF with x|x|⟨_,_,x⟩
   ·exact(h.sp idx a ha (c_▸h1)).1 x i h3
   ·cases x
   ·cases x
  ·rw[h2]at qF;rcases qF with x|x|⟨_,x,_⟩
   ·exact(h.sp idx a ha (c_▸h1)).1 x i h4
   ·cases x
   ·rw[h3];exact(h.sp idx a ha (c_▸h1)).2 x
  ·exact h.kw i hi _ h2 idx a ha c_
  ·exact h.kr i hi _ h2 idx a ha c_ (by rw[h3]at KZ;simpa using KZ)
  ·exact absurd (c_▸N5 h.low ha) h2
 low op ay:=(Ut.1 ay).elim (λx=>Zi hB (h.low op x)) (hl op)
 gs op ay:=(Ut.1 ay).elim (h.gs op) (λx=>by rw[hu op x];exact hi)
 norel op ay:=(Ut.1 ay).elim (h.norel op) (hn op)
 kr j hj l u7:=by
  by_cases cy:j=i
  ·subst cy;intro idx a ha gZ hw;rcases A9 ha with gL|⟨_,op,ay,dg,hx⟩
   ·have iH:l.low B:=gZ▸N5 h.low gL;rcases hri l u7 iH with x|x
    ·exact(h.kr j hj l x idx a gL gZ hw).app u
    ·exact(h.kw j hj l x idx a gL gZ).app u
   ·have:=Zb dg;rwa [hu op ay]at this
  ·have C1:=Lv j l cy u7;refine(h.kr j hj l C1).app λop ay b hb cT hw=> ?_;exfalso;rcases hf op ay b hb with⟨h1,_⟩|⟨h1,_⟩|⟨_,h2|⟨_,h3⟩|h2⟩
   ·exact(Hy l j (cT▸h1)).1 C1
   ·exact(Hy l j (cT▸h1)).1 C1
   ·exact((ex l j cy).1 (cT▸h2)).1 C1
   ·rw[h3]at hw;cases hw
   ·exact h2 (cT▸aa0 j l (.inl C1))
 kw j hj l sg:=by
  by_cases cy:j=i
  ·subst cy;intro idx a ha gZ;rcases A9 ha with gL|⟨_,op,ay,dg,hx⟩
   ·exact(h.kw j hj l (yy l sg (gZ▸N5 h.low gL)) idx a gL gZ).app u
   ·have:=Zb dg;rwa [hu op ay]at this
  ·have od:=sh j l cy sg;refine(h.kw j hj l od).app λop ay b hb cT=> ?_;exfalso;rcases hf op ay b hb with⟨h1,_⟩|⟨h1,_⟩|⟨_,h2|⟨h2,_⟩|h2⟩
   ·exact(Hy l j (cT▸h1)).2 od
   ·exact(Hy l j (cT▸h1)).2 od
   ·exact((ex l j cy).1 (cT▸h2)).2 od
   ·exact(ex l j cy).2 (cT▸h2) od
   ·exact h2 (cT▸aa0 j l (.inr od))
 sp idx a ha ee:=by
  rcases A9 ha with gL|⟨_,op,ay,dg,hx⟩
  ·exact⟨λhp j hj=>((h.sp idx a gL ee).1 hp j hj).app u,λhp=>((h.sp idx a gL ee).2 hp).app u⟩
  ·rcases hf op ay a hx with⟨_,h2,_⟩|⟨_,h2,h3,_⟩|⟨h1,_⟩
   ·exact⟨λhp=>absurd (h2.symm.trans hp) (by simp),λhp=>absurd (h2.symm.trans hp) (by simp)⟩
   ·refine⟨λhp=>absurd (h2.symm.trans hp) (by simp),λ_=> ?_⟩;have:=Zb dg;rw[hu op ay,h3]at this;exact this
   ·exact absurd ee h1
theorem TI.weaken{t:Un}{B N B':Nat}{rd wr rd' wr':Nat->Loc->Prop}{Sh OE:Loc->Prop}{act act':Nat->Prop}{ic lc:Nat}(h:TI t B N rd wr Sh act ic)(hB:B<=B')
  (Lv:∀i l,i<N->rd' i l->rd i l\/wr i l) (sh:∀i l,i<N->wr' i l->wr i l)
  (yp:∀idx a,touchAt t idx=some a->OE a.loc->(a.kind=.plain->∀i,act' i->Wm t i idx)/\(a.kind=.said->Wm t lc idx)):TI t B' N rd' wr' OE act' lc:=
 ⟨h.nr,λop ay=>Zi hB (h.low op ay),h.gs,h.norel,λi hi l x=>(Lv i l hi x).elim (h.kr i hi l) (λy=>PermW.of (h.kw i hi l y)),λi hi l x=>h.kw i hi l (sh i l hi x),yp⟩
theorem anD{t u:Un}(h:∀said,¬Race said t)(hn:∀op∈u,op.act.touch?=none):∀said,¬Race said (t++u):=by
 intro said
 rintro⟨i,j,kI,⟨a,b,ha,hb,hc⟩,n1,n2⟩
 have old:∀{k:Nat}{x:YH},((t++u).act? k).bind (·.touch?)=some x->k<t.size/\(t.act? k).bind (·.touch?)=some x:=by
  intro k x hx;obtain⟨y,hy,LV⟩:=UT hx;rcases Xg hy with⟨hk,pY⟩|⟨_,hyu⟩
  ·exact⟨hk,by simp[Trace.act?,pY,LV]⟩
  ·rw[hn y hyu]at LV;cases LV
 exact h said ⟨i,j,kI,⟨a,b,(old ha).2,(old hb).2,hc⟩,λe=>n1 (hb_app u e),λe=>n2 (hb_app u e)⟩
theorem A_{t u:Un}(hn:∀op∈u,op.act.touch?=none){idx:Nat}{a:YH}(h:touchAt (t++u) idx=some a):touchAt t idx=some a:=by
 rcases A9 h with h|⟨_,op,ay,_,hx⟩
 ·exact h
 ·rw[hn op ay]at hx;cases hx
theorem TI.mute{t:Un}{B N N':Nat}{rd wr rd' wr':Nat->Loc->Prop}{Sh:Loc->Prop}{act act':Nat->Prop}{ic lc:Nat}(h:TI t B N rd wr Sh act ic){u:Un}(hn:∀op∈u,op.act.touch?=none)(hl:∀op∈u,op.act.low B)(hg:∀op∈u,op.g<N')(hN:N<=N')
  (rX:∀op∈u,∀a,op.act≠ .mark (.release a))
  (kr:∀i,i<N'->∀l,rd' i l->∀idx a,touchAt t idx=some a->a.loc=l->a.write=true->Wm (t++u) i idx) (kw:∀i,i<N'->∀l,wr' i l->∀idx a,touchAt t idx=some a->a.loc=l->Wm (t++u) i idx)
  (sp:∀idx a,touchAt t idx=some a->Sh a.loc->(a.kind=.plain->∀i,act' i->Wm (t++u) i idx)/\(a.kind=.said->Wm (t++u) lc idx)):TI (t++u) B N' rd' wr' Sh act' lc:=
 ⟨anD h.nr hn,λop ay=>(Ut.1 ay).elim (h.low op) (hl op),λop ay=>(Ut.1 ay).elim (λx=>Tc (h.gs op x) hN) (hg op),λop ay=>(Ut.1 ay).elim (h.norel op) (rX op),
  λi hi l x idx a ha=>kr i hi l x idx a (A_ hn ha),λi hi l x idx a ha=>kw i hi l x idx a (A_ hn ha),λidx a ha=>sp idx a (A_ hn ha)⟩
theorem rH{t u:Un}{k:Nat}{x:Wc}(h:u[k]?=some x):(t++u)[t.size+k]?=some x:=by
 rw[X4 (by omega)];simpa using h
theorem heard_new{t u:Un}{k g:Nat}{x:Wc}(h:u[k]?=some x)(hx:x.g=g)(hd:(t++u).deaf g (t.size+k)=0):(t++u).heard (t.size+k):=⟨g,by simp[Wz,rH h,hx],hd⟩
def still (m:MemAct):Prop:=m≠ .mark .disable/\m≠ .mark .enable
theorem IX{g d:Nat}{y:Wc}(h:still y.act):deafStep g d y=d:=by
 unfold deafStep;obtain⟨_,_,_,act⟩:=y;cases act with
 |mark m=>cases m<;>first|rfl|exact absurd rfl h.1|exact absurd rfl h.2
 |_=>rfl
theorem uz{t u:Un}{g:Nat}(hs:∀op∈u,still op.act):∀{k:Nat},k<=u.size->(t++u).deaf g (t.size+k)=US t g:=by
 intro k;induction k with
 |zero=>intro _;exact deaf_old (SR _)
 |succ k ih=>
  intro hk;have hlt:k<u.size:=by omega
  have hy:u[k]?=some u[k]:=SK hlt;have e:=Z' (g:=g) (rH (t:=t) hy);rw[show t.size+(k+1)=t.size+k+1 from rfl,e,ih (by omega),IX (hs _ (XS hlt))]
theorem Deaf_still{t u:Un}{g:Nat}(hs:∀op∈u,still op.act):US (t++u) g=US t g:=by
 have:=uz (t:=t) (g:=g) hs (SR u.size);unfold US;rw[Xy];exact this
theorem ani{t u:Un}{k c s:Nat}{x0 x1 x2 x3:Wc}(hu:u=#[x0,x1,x2,x3]) (h0:x0.g=k/\x0.act=.send c s) (h1:still x1.act) (h2:still x2.act) (h3:x3.g=0/\x3.act=.recvDone c s) (dk:US t k=0) (d0:US t 0=0) {idx:Nat} (h:Wm t k idx):Wm (t++u) 0 idx:=by
 have hs:∀op∈u,still op.act:=by
  subst hu;intro op ay;simp only[TJ,SL,S0,or_false]at ay;rcases ay with rfl|rfl|rfl|rfl
  ·rw[h0.2];exact⟨by simp,by simp⟩
  ·exact h1
  ·exact h2
  ·rw[h3.2];exact⟨by simp,by simp⟩
 have e0:u[0]?=some x0:=by subst hu;rfl
 have e3:u[3]?=some x3:=by subst hu;rfl
 have aY:u.size=4:=by subst hu;rfl
 have g0:=rH (t:=t) e0;have g3:=rH (t:=t) e3;have hh0:(t++u).heard (t.size+0):=heard_new e0 h0.1 (by rw[uz hs (by omega)];exact dk);have RQ:(t++u).heard (t.size+3):=heard_new e3 h3.1 (by rw[uz hs (by omega)];exact d0);have hb:HappensBefore (t++u) idx (t.size+0):=h.hb_new (by omega) g0 h0.1;exact⟨_,x3,g3,h3.1,.inr (hb.trans (.single (.inr ⟨.handOver (c:=c) (k:=s) (by rw[af_ g0,h0.2]) (by rw[af_ g3,h3.2]),hh0,RQ⟩)))⟩
theorem aeR{t:Un}{a:U1}{r q i:Nat}{y:Wc}(hr:t.act? r=some (.mark (.releaseMerge a)))(hh:t.heard r)(hn:∀op∈t,∀a,op.act≠ .mark (.release a))(hy:y.g=q/\y.act=.mark (.acquire a))(hd:US t q=0)(hb:Before t i r):Wm (t++#[y]) q i:=by
 have e:(#[y]:Un)[0]?=some y:=rfl;have g:=rH (t:=t) e;have u7:=Wa hr;have aR:∀op∈(#[y]:Un),still op.act:=by
  intro op ay;simp only[TJ,SL,S0,or_false]at ay;subst ay;rw[hy.2];exact⟨by simp,by simp⟩
 have KP:(t++#[y]).heard (t.size+0):=heard_new e hy.1 (by rw[uz aR (by simp)];exact hd);refine⟨_,y,g,hy.1,.inr ((hb.app #[y]).hb (.single (.inr ⟨.marked (a:=a) (by omega) (.inr (by rw[X2 u7];exact hr)) (by rw[af_ g,hy.2]) (λk iP cM e'=> ?_),(Wq u7).2 hh,KP⟩)))⟩;obtain⟨op,ho,hoa⟩:=Tp.1 e';rcases Xg ho with⟨_,bc⟩|⟨hk,_⟩
 ·exact hn op (XR bc) a hoa
 ·omega
theorem agz{t:Un}{c p q i:Nat}{y:Wc}(hp:t.act? p=some (.close c))(hh:t.heard p)(hy:y.g=q/\y.act=.recvClosed c)(hd:US t q=0)(hb:Before t i p):Wm (t++#[y]) q i:=by
 have e:(#[y]:Un)[0]?=some y:=rfl;have g:=rH (t:=t) e;have cN:=Wa hp;have aR:∀op∈(#[y]:Un),still op.act:=by
  intro op ay;simp only[TJ,SL,S0,or_false]at ay;subst ay;rw[hy.2];exact⟨by simp,by simp⟩
 have KP:(t++#[y]).heard (t.size+0):=heard_new e hy.1 (by rw[uz aR (by simp)];exact hd);exact⟨_,y,g,hy.1,.inr ((hb.app #[y]).hb (.single (.inr ⟨.closed (c:=c) (by rw[X2 cN];exact hp) (by rw[af_ g,hy.2]),(Wq cN).2 hh,KP⟩)))⟩
def j4 (U V:View):Prop:=∀b,U.own b≠none->V.own b=none/\∀o,V.ab b o≠none->U.ab b o≠none
def ig (V:View):Loc->Prop
 |.cell a=>V.own a.block≠none\/V.ab a.block a.off≠none
 |.obj r=>V.own r≠none
 |_=>False
def j5 (V:View):Loc->Prop
 |.cell a=>V.own a.block≠none/\V.ab a.block a.off=none
 |.obj r=>V.own r≠none
 |_=>False
theorem j5.rd{V:View}:∀{l:Loc},j5 V l->ig V l
 |.cell _,h=> .inl h.1
 |.obj _,h=>h
theorem dq.others{V V' U:View}{w w':To}{es:Array Ur}(s:dq V w V' w' es)(hV:Sat V w)(h:Sat U w)(d:j4 V U):Sat U w':=by
 refine⟨λb o v e=> ?_,λb x e=> ?_⟩
 ·have hc:=h.ab b o v e;have hb:=h.Dg e;cases ho:V.own b with
  |none=>
   have:=s.frame b hb ho;simp only[Uy,this]at hc⊢;exact hc
  |some x=>
   have hp:=(d b (by rw[ho];simp)).2 o (by rw[e];simp);cases hi:V.ab b o with
   |none=>exact absurd hi hp
   |some v'=>
    have e1:=hV.ab b o v' hi;rw[hc]at e1;cases e1;exact s.sat.ab b o v (s.ab b o v hi)
 ·have hb:=h.lt e;have ho:V.own b=none:=by
   cases ho:V.own b with
   |none=>rfl
   |some y=>rw[(d b (by rw[ho];simp)).1]at e;cases e
  rw[s.frame b hb ho];exact h.own b x e
theorem dq.v5{V V' U:View}{w w':To}{es:Array Ur}(s:dq V w V' w' es)(h:Sat U w)(d:j4 V U)(d':j4 U V):j4 V' U/\j4 U V':=by
 have key:∀b,V'.own b≠none->V.own b≠none\/w.heap.size<=b:=by
  intro b hb;by_cases hlt:b<w.heap.size
  ·exact .inl λe=>hb (s.own b hlt e)
  ·exact .inr (by omega)
 refine⟨λb hb=> ?_,λb hb=> ?_⟩
 ·rcases key b hb with x|x
  ·refine⟨(d b x).1,λo ho=> ?_⟩;have:=(d b x).2 o ho;cases e:V.ab b o with
   |none=>exact absurd e this
   |some v=>rw[s.ab b o v e];simp
  ·have:=h.fresh x;exact⟨this.1,λo ho=>absurd (this.2 o) ho⟩
 ·have hlt:b<w.heap.size:=by
   cases e:U.own b with
   |none=>exact absurd e hb
   |some x=>exact h.lt e
  refine⟨?_,λo ho=> ?_⟩
  ·exact s.own b hlt (d' b hb).1
  ·cases e:V'.ab b o with
   |none=>exact absurd e ho
   |some v=>
    rcases s.ld b o v e with x|x|x
    ·exact(d' b hb).2 o (by rw[x];simp)
    ·exact absurd (d' b hb).1 x
    ·omega
theorem ej.v5{V V' U:View}(g:ej V V')(d:j4 V U)(d':j4 U V):j4 V' U/\j4 U V':=by
 refine⟨λb hb=> ?_,λb hb=>⟨g.own b (d' b hb).1,λo ho=> ?_⟩⟩
 ·have x:V.own b≠none:=λe=>hb (g.own b e);refine⟨(d b x).1,λo ho=> ?_⟩;cases e:V.ab b o with
  |none=>exact absurd e ((d b x).2 o ho)
  |some v=>rw[g.ab b o v e];simp
 ·cases e:V'.ab b o with
  |none=>exact absurd e ho
  |some v=>
   rcases g.ld b o v e with x|x
   ·exact(d' b hb).2 o (by rw[x];simp)
   ·exact absurd (d' b hb).1 x
theorem ej.rd{V V':View}(g:ej V V'):∀{l:Loc},ig V' l->ig V l
 |.cell a,h=>by
  rcases h with h|h
  ·exact .inl λe=>h (g.own _ e)
  ·cases e:V'.ab a.block a.off with
   |none=>exact absurd e h
   |some v=>exact(g.ld _ _ _ e).elim (λx=> .inr (by rw[x];simp)) .inl
 |.obj _,h=>λe=>h (g.own _ e)
theorem ej.wr{V V':View}(g:ej V V'):∀{l:Loc},j5 V' l->j5 V l
 |.cell a,h=>⟨λe=>h.1 (g.own _ e),by
  cases e:V.ab a.block a.off with
  |none=>rfl
  |some v=>exact absurd (g.ab _ _ _ e) (by rw[h.2];simp)⟩
 |.obj _,h=>λe=>h (g.own _ e)
theorem ig.low{V:View}{w:To}(h:Sat V w):∀{l:Loc},ig V l->l.low w.heap.size
 |.cell a,x=>by
  rcases x with x|x
  ·cases e:V.own a.block with
   |none=>exact absurd e x
   |some y=>exact h.lt e
  ·cases e:V.ab a.block a.off with
   |none=>exact absurd e x
   |some y=>exact h.Dg e
 |.obj r,x=>by
  cases e:V.own r with
  |none=>exact absurd e x
  |some y=>exact h.lt e
theorem dq.rd{V V':View}{w w':To}{es:Array Ur}(s:dq V w V' w' es):∀{l:Loc},ig V' l->l.low w.heap.size->ig V l
 |.cell a,h,hl=>by
  have eW:a.block<w.heap.size:=hl;rcases h with h|h
  ·exact .inl λe=>h (s.own _ eW e)
  ·cases e:V'.ab a.block a.off with
   |none=>exact absurd e h
   |some v=>
    rcases s.ld _ _ _ e with x|x|x
    ·exact .inr (by rw[x];simp)
    ·exact .inl x
    ·omega
 |.obj r,h,hl=>λe=>h (s.own _ hl e)
theorem dq.wr{V V':View}{w w':To}{es:Array Ur}(s:dq V w V' w' es):∀{l:Loc},j5 V' l->l.low w.heap.size->j5 V l
 |.cell a,h,hl=>⟨λe=>h.1 (s.own _ hl e),by
  cases e:V.ab a.block a.off with
  |none=>rfl
  |some v=>exact absurd (s.ab _ _ _ e) (by rw[h.2];simp)⟩
 |.obj r,h,hl=>λe=>h (s.own _ hl e)
theorem agU{U V:View}(d:j4 U V)(d':j4 V U)(l:Loc):(j5 U l->¬ig V l/\¬j5 V l)/\(ig U l->¬j5 V l):=by
 cases l with
 |cell a=>
  refine⟨λh=> ?_,λh=> ?_⟩
  ·have:=d _ h.1;refine⟨λx=> ?_,λx=>x.1 this.1⟩;rcases x with x|x
   ·exact x this.1
   ·exact this.2 _ x h.2
  ·intro x;have:=d' _ x.1;rcases h with h|h
   ·exact h this.1
   ·exact this.2 _ h x.2
 |obj r=>exact⟨λh=>⟨λx=>x (d r h).1,λx=>x (d r h).1⟩,λh x=>h (d' r x).1⟩
 |_=>exact⟨λh=>h.elim,λh=>h.elim⟩
def ry (c Wg:Nat):Loc->Prop
 |.cell a=>a.block=Wg
 |.obj r=>r=c
 |_=>False
structure Core (VV:Nat->View)(N:Nat)(w:To)(t:Un)(Sh:Loc->Prop)(act:Nat->Prop)(ic n0:Nat)(W0:To):Prop where
 sat:∀i,i<N->Sat (VV i) w
 dV:∀i j,i<N->j<N->i≠j->j4 (VV i) (VV j)
 ti:TI t w.heap.size N (λi l=>i<N/\ig (VV i) l/\¬Sh l) (λi l=>i<N/\j5 (VV i) l/\¬Sh l) Sh act ic
 tape:w.tape=W0.tape
 os:w.os=W0.os
 out:w.output=W0.output
 old:∀b,b<n0->w.heap[b]?=W0.heap[b]?
 jD:∀i,i<N->∀b,b<n0->(VV i).own b=none
 n0:n0<=w.heap.size
def upd {α:Type}(f:Nat->α)(i:Nat)(x:α):Nat->α:=λj=>if j=i then x else f j
theorem bB{α:Type}(f:Nat->α)(i:Nat)(x:α):upd f i x i=x:=by simp[upd]
theorem ba{α:Type}(f:Nat->α){i j:Nat}(x:α)(h:j≠i):upd f i x j=f j:=by simp[upd,h]
section
variable {VV:Nat->View}{N:Nat}{w w':To}{t:Un}{Sh:Loc->Prop}{act:Nat->Prop}{ic n0 i:Nat}{W0:To}
theorem Core.draw(h:Core VV N w t Sh act ic n0 W0)(d:Nat):Core VV N (w.at d) t Sh act ic n0 W0:=
 ⟨λi hi=>⟨(h.sat i hi).ab,(h.sat i hi).own⟩,h.dV,h.ti,h.tape,h.os,h.out,h.old,h.jD,h.n0⟩
theorem Jh{V:View}{B:Nat}{e:Ur}(he:ny V B e){x:YH}(hx:(Tq e).touch?=some x):(j5 V x.loc\/(ig V x.loc/\x.write=false)\/¬x.loc.low B)/\
  (∀c,V.role.chan=some c->x.loc≠ .obj c)/\(∀Wg a,V.role.group=some Wg->x.loc=.cell a->a.block=Wg->x.kind≠ .plain):=by
 obtain⟨l,wr,s⟩:=e;cases l with
 |cell a=>
  simp only[am_,Wd,Tj]at hx;subst hx;cases wr with
  |false=>
   refine⟨?_,λc _=>by simp,λWg a' hr ha hb=> ?_⟩
   ·rcases he.1 with h|h|h
    ·exact .inr (.inr (by show ¬a.block<B;omega))
    ·exact .inr (.inl ⟨.inl h,rfl⟩)
    ·exact .inr (.inl ⟨.inr h,rfl⟩)
   ·cases ha;rcases he.2 with h|h
    ·subst h;simp
    ·subst hb;exact absurd hr h
  |true=>
   refine⟨?_,λc _=>by simp,λWg a' hr ha hb=> ?_⟩
   ·rcases he.1 with h|h
    ·exact .inr (.inr (by show ¬a.block<B;omega))
    ·exact .inl h
   ·cases ha;rcases he.2 with h|h
    ·subst h;simp
    ·subst hb;exact absurd hr h
 |obj r=>
  obtain⟨⟨rfl,h2⟩,h3⟩:=he;have e1:Tq ⟨.obj r,wr,false⟩=.access ⟨.obj r,wr,false⟩:=by cases wr<;>rfl
  rw[e1]at hx;simp only[Wd,Tj]at hx;subst hx;refine⟨?_,λc hc e=> ?_,λWg a _ ha=>by cases ha⟩
  ·rcases h2 with h|h
   ·exact .inr (.inr (by show ¬r<B;omega))
   ·exact .inl h
  ·cases e;exact h3 hc
 |mark m=>
  have e1:Tq ⟨.mark m,wr,s⟩=.mark m:=by cases wr<;>cases s<;>rfl
  rw[e1]at hx;cases m<;>simp only[Wd,Tj,reduceCtorEq]at hx
  all_goals
   subst hx;refine⟨?_,λc _=>by simp,λWg a' _ _ _=>by simp⟩;have kG:m8 V B _:=he;rcases kG with h|h
   ·exact .inr (.inr (by simp only[Loc.low];omega))
   ·exact .inl h
 |_=>exact he.elim
theorem Core.Qd(h:Core VV N w t Sh act ic n0 W0)(l:Loc){i j:Nat}(hi:i<N)(hj:j≠i):
  ((i<N/\j5 (VV i) l/\¬Sh l)->¬(j<N/\ig (VV j) l/\¬Sh l)/\¬(j<N/\j5 (VV j) l/\¬Sh l))/\((i<N/\ig (VV i) l/\¬Sh l)->¬(j<N/\j5 (VV j) l/\¬Sh l)):=by
 by_cases CM:j<N
 ·have:=agU (h.dV i j hi CM (Ne.symm hj)) (h.dV j i CM hi hj) l;exact⟨λ⟨_,x,_⟩=>⟨λ⟨_,y,_⟩=>(this.1 x).1 y,λ⟨_,y,_⟩=>(this.1 x).2 y⟩,λ⟨_,x,_⟩ ⟨_,y,_⟩=>this.2 x y⟩
 ·exact⟨λ_=>⟨λ⟨y,_⟩=>CM y,λ⟨y,_⟩=>CM y⟩,λ_ ⟨y,_⟩=>CM y⟩
theorem Core.step(h:Core VV N w t Sh act ic n0 W0)(hi:i<N){V':View}{es:Array Ur}(s:dq (VV i) w V' w' es)
  (ee:∀e∈es,∀x,(Tq e).touch?=some x->Sh x.loc->(x.kind=.atomic/\act i)\/(x.kind=.said/\i=ic/\act i)) (fn:TO) (pos:String):
  Core (upd VV i V') N w' (t++Ta i fn pos es) Sh act ic n0 W0 where
 sat j hj:=by
  by_cases cy:j=i
  ·subst cy;rw[bB];exact s.sat
  ·rw[ba _ _ cy];exact s.others (h.sat i hi) (h.sat j hj) (h.dV i j hi hj (Ne.symm cy))
 dV a b ha hb fw:=by
  by_cases nT:a=i
  ·subst nT;have wi:b≠a:=Ne.symm fw;rw[bB,ba _ _ wi];exact(s.v5 (h.sat b hb) (h.dV a b ha hb fw) (h.dV b a hb ha wi)).1
  ·by_cases jb:b=i
   ·subst jb;rw[bB,ba _ _ nT];exact(s.v5 (h.sat a ha) (h.dV b a hb ha (Ne.symm fw)) (h.dV a b ha hb fw)).2
   ·rw[ba _ _ nT,ba _ _ jb];exact h.dV a b ha hb fw
 ti:=by
  refine h.ti.app hi (λop ay=>by obtain⟨e,_,rfl⟩:=TL ay;rfl) (λop ay x hx=> ?_) (λop ay=>by obtain⟨e,he,rfl⟩:=TL ay;exact s.low e he) s.size (λop ay a=> ?_)
   (λj l hj ⟨x,y⟩=>by rw[ba _ _ hj]at y;exact⟨x,y⟩) (λj l hj ⟨x,y⟩=>by rw[ba _ _ hj]at y;exact⟨x,y⟩)
   (λl ⟨x,y,z⟩ hl=>by rw[bB]at y;exact .inl ⟨x,s.rd y hl,z⟩) (λl ⟨x,y,z⟩ hl=>by rw[bB]at y;exact⟨x,s.wr y hl,z⟩)
   (λl j hj=>h.Qd l hi hj) (λl j hs=>⟨λx=>x.2.2 hs,λx=>x.2.2 hs⟩) (λj l x=>x.elim (λy=>ig.low (h.sat j y.1) y.2.1) (λy=>ig.low (h.sat j y.1) y.2.1.rd))
  ·obtain⟨e,he,rfl⟩:=TL ay;by_cases hs:Sh x.loc
   ·rcases ee e he x hx hs with⟨a,b⟩|⟨a,b,c⟩
    ·exact .inl ⟨hs,a,b⟩
    ·exact .inr (.inl ⟨hs,a,b,c⟩)
   ·refine .inr (.inr ⟨hs,?_⟩);rcases(Jh (s.fD e he) hx).1 with x'|⟨x',y⟩|x'
    ·exact .inl ⟨hi,x',hs⟩
    ·exact .inr (.inl ⟨⟨hi,x',hs⟩,y⟩)
    ·exact .inr (.inr x')
  ·obtain⟨e,he,rfl⟩:=TL ay;intro e';have hk:=s.fD e he;obtain⟨l,wr,sy⟩:=e;cases l with
   |mark m=>
    have e1:Tq ⟨.mark m,wr,sy⟩=.mark m:=(by cases wr<;>cases sy<;>rfl);simp only[e1,ah']at e';subst e';exact hk
   |cell a'=>simp[am_]at e'
   |obj r=>cases wr<;>cases sy<;>simp[Tq]at e'
   |_=>exact hk
 tape:=s.tape.trans h.tape
 os:=s.os.trans h.os
 out:=s.output.trans h.out
 old b hb:=(s.frame b (Tc hb h.n0) (h.jD i hi b hb)).trans (h.old b hb)
 jD j hj b hb:=by
  by_cases cy:j=i
  ·subst cy;rw[bB];exact s.own b (Tc hb h.n0) (h.jD j hj b hb)
  ·rw[ba _ _ cy];exact h.jD j hj b hb
 n0:=UL h.n0 s.size
theorem Core.ghost(h:Core VV N w t Sh act ic n0 W0)(hi:i<N){V':View}(g:ej (VV i) V'):Core (upd VV i V') N w t Sh act ic n0 W0 where
 sat j hj:=by
  by_cases cy:j=i
  ·subst cy;rw[bB];exact g.sat _ (h.sat j hj)
  ·rw[ba _ _ cy];exact h.sat j hj
 dV a b ha hb fw:=by
  by_cases nT:a=i
  ·subst nT;have wi:b≠a:=Ne.symm fw;rw[bB,ba _ _ wi];exact(g.v5 (h.dV a b ha hb fw) (h.dV b a hb ha wi)).1
  ·by_cases jb:b=i
   ·subst jb;rw[bB,ba _ _ nT];exact(g.v5 (h.dV b a hb ha (Ne.symm fw)) (h.dV a b ha hb fw)).2
   ·rw[ba _ _ nT,ba _ _ jb];exact h.dV a b ha hb fw
 ti:=h.ti.weaken (SR _) (λj l _ ⟨x,y,z⟩=>by
   by_cases cy:j=i
   ·subst cy;rw[bB]at y;exact .inl ⟨x,g.rd y,z⟩
   ·rw[ba _ _ cy]at y;exact .inl ⟨x,y,z⟩) (λj l _ ⟨x,y,z⟩=>by
   by_cases cy:j=i
   ·subst cy;rw[bB]at y;exact⟨x,g.wr y,z⟩
   ·rw[ba _ _ cy]at y;exact⟨x,y,z⟩) h.ti.sp
 tape:=h.tape
 os:=h.os
 out:=h.out
 old:=h.old
 jD j hj b hb:=by
  by_cases cy:j=i
  ·subst cy;rw[bB];exact g.own b (h.jD j hj b hb)
  ·rw[ba _ _ cy];exact h.jD j hj b hb
 n0:=h.n0
def mZ (V' V:View):Prop:=(∀b,V'.own b=none\/V'.own b=V.own b)/\(∀b o,V'.ab b o=none\/V'.ab b o=V.ab b o)/\(∀b,V'.own b≠none->∀o,V'.ab b o=V.ab b o)
theorem mZ.sat{V V':View}(l:mZ V' V){w:To}(h:Sat V w):Sat V' w:=
 ⟨λb o v e=>h.ab b o v (by rcases l.2.1 b o with x|x<;>rw[x]at e;cases e;exact e),λb x e=>h.own b x (by rcases l.1 b with y|y<;>rw[y]at e;cases e;exact e)⟩
theorem mZ.rd{V V':View}(k:mZ V' V):∀{l:Loc},ig V' l->ig V l
 |.cell a,h=>h.imp (λx y=>by rcases k.1 a.block with z|z;exact x z;exact x (z.trans y)) (λx y=>by rcases k.2.1 a.block a.off with z|z;exact x z;exact x (z.trans y))
 |.obj r,h=>λy=>by rcases k.1 r with z|z;exact h z;exact h (z.trans y)
theorem mZ.wr{V V':View}(k:mZ V' V):∀{l:Loc},j5 V' l->j5 V l
 |.cell a,h=>⟨λy=>by rcases k.1 a.block with z|z;exact h.1 z;exact h.1 (z.trans y),by rw[<- k.2.2 _ h.1];exact h.2⟩
 |.obj r,h=>λy=>by rcases k.1 r with z|z;exact h z;exact h (z.trans y)
theorem mZ.v5{V V' U:View}(k:mZ V' V)(d:j4 V U)(d':j4 U V):j4 V' U/\j4 U V':=by
 refine⟨λb hb=> ?_,λb hb=>⟨?_,λo ho=> ?_⟩⟩
 ·have x:V.own b≠none:=λy=>by rcases k.1 b with z|z;exact hb z;exact hb (z.trans y)
  exact⟨(d b x).1,λo ho=>by rw[k.2.2 b hb];exact(d b x).2 o ho⟩
 ·rcases k.1 b with z|z;exact z;exact z.trans (d' b hb).1
 ·exact(d' b hb).2 o λy=>by rcases k.2.1 b o with z|z;exact ho z;exact ho (z.trans y)
theorem Core.less(h:Core VV N w t Sh act ic n0 W0)(hi:i<N){V':View}(k:mZ V' (VV i)):Core (upd VV i V') N w t Sh act ic n0 W0 where
 sat j hj:=by
  by_cases cy:j=i
  ·subst cy;rw[bB];exact k.sat (h.sat j hj)
  ·rw[ba _ _ cy];exact h.sat j hj
 dV a b ha hb fw:=by
  by_cases nT:a=i
  ·subst nT;have wi:b≠a:=Ne.symm fw;rw[bB,ba _ _ wi];exact(k.v5 (h.dV a b ha hb fw) (h.dV b a hb ha wi)).1
  ·by_cases jb:b=i
   ·subst jb;rw[bB,ba _ _ nT];exact(k.v5 (h.dV b a hb ha (Ne.symm fw)) (h.dV a b ha hb fw)).2
   ·rw[ba _ _ nT,ba _ _ jb];exact h.dV a b ha hb fw
 ti:=h.ti.weaken (SR _) (λj l _ ⟨x,y,z⟩=>by
   by_cases cy:j=i
   ·subst cy;rw[bB]at y;exact .inl ⟨x,k.rd y,z⟩
   ·rw[ba _ _ cy]at y;exact .inl ⟨x,y,z⟩) (λj l _ ⟨x,y,z⟩=>by
   by_cases cy:j=i
   ·subst cy;rw[bB]at y;exact⟨x,k.wr y,z⟩
   ·rw[ba _ _ cy]at y;exact⟨x,y,z⟩) h.ti.sp
 tape:=h.tape
 os:=h.os
 out:=h.out
 old:=h.old
 jD j hj b hb:=by
  by_cases cy:j=i
  ·subst cy;rw[bB];rcases k.1 b with z|z;exact z;exact z.trans (h.jD j hj b hb)
  ·rw[ba _ _ cy];exact h.jD j hj b hb
 n0:=h.n0
theorem Core.ue(h:Core VV N w t Sh act ic n0 W0)(hi:i<N){es:Array Ur}(cC:∀e∈es,∀x,(Tq e).touch?=some x->Fit w.heap.size (λi l=>i<N/\ig (VV i) l/\¬Sh l) (λi l=>i<N/\j5 (VV i) l/\¬Sh l) Sh act ic i x)
  (iH:∀e∈es,(Tq e).low w.heap.size) (rX:∀e∈es,∀a,Tq e≠ .mark (.release a)) (SB:Nat->Prop) (pU:∀b,SB b->n0<=b/\∀j,j<N->(VV j).own b=none/\∀o,(VV j).ab b o=none)
  (aY:w'.heap.size=w.heap.size) (jR:∀b,¬SB b->w'.heap[b]?=w.heap[b]?) (ht:w'.tape=w.tape) (ho:w'.os=w.os) (hu:w'.output=w.output) (fn:TO) (pos:String):
  Core VV N w' (t++Ta i fn pos es) Sh act ic n0 W0 where
 sat j hj:=by
  have hs:=h.sat j hj;refine⟨λb o v e=> ?_,λb x e=> ?_⟩
  ·have hb:¬SB b:=λx=>(by rw[((pU b x).2 j hj).2 o]at e;cases e);have:=hs.ab b o v e;simp only[Uy,jR b hb];exact this
  ·have hb:¬SB b:=λy=>(by rw[((pU b y).2 j hj).1]at e;cases e);rw[jR b hb];exact hs.own b x e
 dV:=h.dV
 ti:=by
  rw[aY];refine h.ti.app hi (λop ay=>by obtain⟨e,_,rfl⟩:=TL ay;rfl) (λop ay x hx=>by obtain⟨e,he,rfl⟩:=TL ay;exact cC e he x hx) (λop ay=>by obtain⟨e,he,rfl⟩:=TL ay;exact iH e he) (SR _) (λop ay a=>by obtain⟨e,he,rfl⟩:=TL ay;exact rX e he a)
   (λj l _ x=>x) (λj l _ x=>x) (λl x _=> .inl x) (λl x _=>x) (λl j hj=>h.Qd l hi hj) (λl j hs=>⟨λx=>x.2.2 hs,λx=>x.2.2 hs⟩) (λj l x=>x.elim (λy=>ig.low (h.sat j y.1) y.2.1) (λy=>ig.low (h.sat j y.1) y.2.1.rd))
 tape:=ht.trans h.tape
 os:=ho.trans h.os
 out:=hu.trans h.out
 old b hb:=(jR b (λx=>by have:=(pU b x).1;omega)).trans (h.old b hb)
 jD:=h.jD
 n0:=by rw[aY];exact h.n0
theorem Core.quiet(h:Core VV N w t Sh act ic n0 W0)(hi:i<N){es:Array Ur}(KA:∀e∈es,(Tq e).touch?=none/\(Tq e).low w.heap.size/\∀a,Tq e≠ .mark (.release a))(fn:TO)(pos:String):
  Core VV N w (t++Ta i fn pos es) Sh act ic n0 W0:=
 h.ue hi (λe he x hx=>by rw[(KA e he).1]at hx;cases hx) (λe he=>(KA e he).2.1) (λe he=>(KA e he).2.2) (λ_=>False) (λb x=>x.elim) rfl (λ_ _=>rfl) rfl rfl rfl fn pos
theorem Core.role(h:Core VV N w t Sh act ic n0 W0)(hi:i<N){V':View}(h1:V'.ab=(VV i).ab)(h2:V'.own=(VV i).own):Core (upd VV i V') N w t Sh act ic n0 W0:=
 h.less hi ⟨λb=> .inr (by rw[h2]),λb o=> .inr (by rw[h1]),λb _ o=>by rw[h1]⟩
end
inductive GS where
 |gone (q:Nat)
 |work (j:Nat) (h:Ht) (V:View)
 |ou (j:Nat) (h:Ht) (V V':View) (g0:SG) (v z:SQ)
 |add (n:Nat)
 |load (n:Nat)
 |store (n:Nat)
 |mT (n:Nat)
 |head (k n:Nat)
 |mB (v n:Nat)
 |said (n:Nat)
 |iE (n:Nat)
 |last (n:Nat)
 |acq (n:Nat)
 |look (n:Nat)
 |close (n:Nat)
def noView:View:={ab:=λ_ _=>none,own:=λ_=>none,deaf:=0,role:=.plain}
def GS.view (Im:cE):GS->View
 |.work _ _ V=>V
 |.ou _ _ V _ _ _ _=>V
 |.head .. |.mB .. |.said _|.iE _|.last _|.acq _|.look _=>{noView with ab:=Im}
 |_=>noView
def GS.cnt:GS->Nat
 |.work .. |.ou .. |.add _=>1
 |_=>0
def GS.late:GS->Nat
 |.load _|.store _|.mT _=>1
 |_=>0
def GS.idx:GS->Option Nat
 |.work j _ _=>some j
 |.ou j _ _ _ _ _ _=>some j
 |_=>none
def GS.shape:GS->GS
 |.gone _=> .gone 0
 |.work j _ _=> .work j .z noView
 |.ou j _ _ _ _ _ _=> .work j .z noView
 |.add _=> .add 0
 |.load _=> .load 0
 |.store _=> .store 0
 |.mT _=> .mT 0
 |.head k _=> .head k 0
 |.mB v _=> .mB v 0
 |.said _=> .said 0
 |.iE _=> .iE 0
 |.last _=> .last 0
 |.acq _=> .acq 0
 |.look _=> .look 0
 |.close _=> .close 0
theorem GS.nL:∀K:GS,K.shape.cnt=K.cnt:=by intro K;cases K<;>rfl
theorem GS.mO:∀K:GS,K.shape.late=K.late:=by intro K;cases K<;>rfl
theorem GS.Gx:∀K:GS,K.shape.idx=K.idx:=by intro K;cases K<;>rfl
def GS.nK:GS->Bool
 |.head .. |.mB .. |.said _|.iE _|.last _|.acq _|.look _|.close _=>true
 |_=>false
theorem GS.Px:∀K:GS,K.shape.nK=K.nK:=by intro K;cases K<;>rfl
def GS.di:GS->zq
 |.gone q=>⟨0,.z,q⟩
 |.work _ h V=>⟨11+2* (match V.role with|.work _ _ S=>S.length|_=>0),h,0⟩
 |.ou _ h V _ _ _ _=>⟨10+2* (match V.role with|.work _ _ S=>S.length|_=>0),h,0⟩
 |.add n=>⟨8,.z,n⟩
 |.load n=>⟨7,.z,n⟩
 |.store n=>⟨6,.z,n⟩
 |.mT n=>⟨5,.z,n⟩
 |.head k n=>⟨100+3* k,.z,n⟩
 |.mB v n=>⟨102+3* v,.z,n⟩
 |.said n=>⟨60,.z,n⟩
 |.iE n=>⟨50,.z,n⟩
 |.last n=>⟨40,.z,n⟩
 |.acq n=>⟨30,.z,n⟩
 |.look n=>⟨20,.z,n⟩
 |.close n=>⟨15,.z,n⟩
section
variable (P:SJ)(c Wg:Nat)(Im:cE)(Ss:List (List Spec))
def Ei (v d:Nat)(g:SG):Prop:=d=1/\g.status=.running/\
 (∃g',(∀w,WgAt P Wg w ((v:Int)* KK) 0->stepG P false g w=.go g' (w.setCell (ep Wg) (.int .u64 ((v:Int)* KK+1))) #[jr (ep Wg),lA (ep Wg)])/\∃n,iB P Wg (Ej P Im c Wg) n 1 g')/\
 (∀u:Nat,u<v->∃g',(∀w,WgAt P Wg w ((u:Int)* KK) 0->stepG P false g w=.go g' w #[jr (ep Wg)])/\∃n,cZ P (eT P Im c Wg v) n 1 g')
theorem eT.succ{k d:Nat}{g:SG}(h:eT P Im c Wg (k+1) d g):d=1/\g.status=.running/\∀v:Nat,v<=k->v<=4->∃g',(∀w,WgAt P Wg w ((v:Int)* KK) 0->stepG P false g w=.go g' w #[jr (ep Wg)])/\
  (v=0->∃n,iB P Wg (uk P Im c Wg) n 1 g')/\(v≠0->∃n,cZ P (Ei P c Wg Im v) n 1 g'):=by
 rw[eT]at h;exact h
theorem eT.zero{d:Nat}{g:SG}(h:eT P Im c Wg 0 d g):False:=by
 rw[eT]at h;exact h
def GS.is:GS->Nat->SG->Prop
 |.gone q,d,g=>Y4 P q d g
 |.work j h V,d,g=>d=V.deaf/\lV P h V g/\∃S,Ss[j]?=some S/\V.role=.work c Wg S
 |.ou j h V V' g0 v z,d,g=>d=0/\V.deaf=0/\g=parked g0 #[scase c v z] .send/\lV P h V' (T6 g0 undef)/\∃sp S,∃B:Nat->Bool,Ss[j]?=some (sp::S)/\V.role=.work c Wg (sp::S)/\
   sp v V.ab (λb=>if B b then V.own b else none)/\V'={V with own:=λb=>if B b then none else V.own b,role:=.work c Wg S}
 |.add n,d,g=>cZ P (Bm P Wg) n d g
 |.load n,d,g=>cZ P (El P Wg) n d g
 |.store n,d,g=>cZ P (En P Wg) n d g
 |.mT n,d,g=>cZ P (Em P Wg) n d g
 |.head k n,d,g=>cZ P (eT P Im c Wg k) n d g
 |.mB v n,d,g=>cZ P (Ei P c Wg Im v) n d g
 |.said n,d,g=>iB P Wg (Ej P Im c Wg) n d g
 |.iE n,d,g=>cZ P (Ek P Im c Wg) n d g\/(n=0/\∃g1,g={g1 with status:=.blocked}/\Ek P Im c Wg d g1)
 |.last n,d,g=>cZ P (H8 P Im c Wg) n d g
 |.acq n,d,g=>iB P Wg (uk P Im c Wg) n d g
 |.look n,d,g=>cZ P (H9 P Im c) n d g
 |.close n,d,g=>cZ P (H7 P c) n d g
end
theorem cZ.running{P:SJ}{Stop:Nat->SG->Prop}(hs:∀d g,Stop d g->g.status=.running):∀{n d:Nat}{g:SG},cZ P Stop n d g->g.status=.running
 |0,_,_,h=>hs _ _ h
 |_+1,_,_,h=>h.elim (hs _ _) (λx=>x.1)
theorem iB.running{P:SJ}{Wg:Nat}{Stop:Nat->SG->Prop}(hs:∀d g,Stop d g->g.status=.running):∀{n d:Nat}{g:SG},iB P Wg Stop n d g->g.status=.running
 |0,_,_,h=>hs _ _ h
 |_+1,_,_,h=>h.elim (hs _ _) (λx=>x.1)
theorem RJ{P:SJ}{Im:cE}{c Wg:Nat}:∀{k d:Nat}{g:SG},eT P Im c Wg k d g->g.status=.running
 |0,_,_,h=>(eT.zero P c Wg Im h).elim
 |_+1,_,_,h=>(eT.succ P c Wg Im h).2.1
theorem GS.runs{P:SJ}{c Wg:Nat}{Im:cE}{Ss:List (List Spec)}{K:GS}{d:Nat}{g:SG}(h:K.is P c Wg Im Ss d g):
  g.status=.running\/g.status=.finished/\(∃q,K=.gone q)\/(∃j h V V' g0 v z,K=.ou j h V V' g0 v z)\/((∃n,K=.iE n)/\g.status=.blocked/\g.offers=none):=by
 cases K with
 |gone q=>exact(ZE h).elim .inl (λx=> .inr (.inl ⟨x,q,rfl⟩))
 |work j h' V=>exact .inl h.2.1.running
 |ou j h' V V' g0 v z=>exact .inr (.inr (.inl ⟨j,h',V,V',g0,v,z,rfl⟩))
 |add n=>exact .inl (cZ.running (λd g x=>x.2.1) h)
 |load n=>exact .inl (cZ.running (λd g x=>x.2.1) h)
 |store n=>exact .inl (cZ.running (λd g x=>x.2.1) h)
 |mT n=>exact .inl (cZ.running (λd g x=>x.2.1) h)
 |head k n=>exact .inl (cZ.running (λd g x=>RJ x) h)
 |mB v n=>exact .inl (cZ.running (λd g x=>x.2.1) h)
 |said n=>exact .inl (iB.running (λd g x=>x.2.1) h)
 |iE n=>
  rcases h with h|⟨_,g1,rfl,h⟩
  ·exact .inl (cZ.running (λd g x=>x.2.1) h)
  ·exact .inr (.inr (.inr ⟨⟨n,rfl⟩,rfl,h.2.2.1⟩))
 |last n=>exact .inl (cZ.running (λd g x=>x.2.1) h)
 |acq n=>exact .inl (iB.running (λd g x=>x.2.1) h)
 |look n=>exact .inl (cZ.running (λd g x=>x.2.1) h)
 |close n=>exact .inl (cZ.running (λd g x=>x.2.1) h)
structure Rel (Wg:Nat)(t:Un)(i r:Nat):Prop where
 act:t.act? r=some (.mark (.releaseMerge (ep Wg)))
 g:t.g? r=some i
 heard:t.heard r
theorem Rel.app{Wg:Nat}{t u:Un}{i r:Nat}(h:Rel Wg t i r):Rel Wg (t++u) i r:=
 have hr:=Wa h.act
 ⟨by rw[X2 hr];exact h.act,by rw[g?_old hr];exact h.g,(Wq hr).2 h.heard⟩
inductive eG where
 |early
 |got
 |shut (p:Nat)
 deriving DecidableEq
def xh (Wg:Nat)(t:Un)(K:Nat->GS)(ic:Nat):eG->Nat->Prop
 |.early,idx=>∃i,t.g? idx=some i/\0<i/\(((K i).idx.isSome=true)\/(i=ic)\/∃r,Rel Wg t i r/\idx<=r)
 |.got,idx=>Wm t ic idx
 |.shut p,idx=>Before t idx p
def Rest (Wg:Nat)(t:Un)(K:Nat->GS)(ic:Nat)(st:Option eG):Prop:=
 ∀idx a,touchAt t idx=some a->a.loc.isMemory=true->Wm t 0 idx\/(a.kind=.atomic/\¬t.heard idx)\/∃s,st=some s/\xh Wg t K ic s idx
def Mode (P:SJ)(c Wg N:Nat)(w:To)(gs:Array SG)(t:Un)(K:Nat->GS)(ic:Nat)(s:eG):Prop:=
 let cn:Nat:=sumTo N λi=>(K i).cnt;let la:Nat:=sumTo N λi=>(K i).late;let opn:=∃n,w.heap[c]?=some (.chan 0 #[] false n n false)
 (opn/\s=.early/\la=0/\cn<=4/\WgAt P Wg w ((cn:Int)* KK) 0/\((∃k,(K ic).shape=.head k 0/\cn<k)\/(∃v,(K ic).shape=.mB v 0/\cn<=v/\0<v)))\/
 (opn/\s=.early/\la=0/\1<=cn/\cn<=4/\WgAt P Wg w ((cn:Int)* KK+1) 0/\((K ic).shape=.said 0\/(K ic).shape=.iE 0))\/
 (opn/\s=.early/\la=1/\cn=0/\((K ic).shape=.said 0\/(K ic).shape=.iE 0)/\(∀i,i<N->((K i).shape=.load 0\/(K i).shape=.store 0)->WgAt P Wg w 1 0)/\(∀i,i<N->(K i).shape=.mT 0->WgAt P Wg w 0 0))\/
 (opn/\s=.early/\la=0/\cn=0/\WgAt P Wg w 0 1/\(∀g,gs[ic]?=some g->g.status=.running)/\((K ic).shape=.said 0\/(K ic).shape=.iE 0))\/
 (opn/\s=.early/\la=0/\cn=0/\WgAt P Wg w 0 0/\((K ic).shape=.last 0\/(K ic).shape=.acq 0))\/
 (opn/\s=.got/\la=0/\cn=0/\((K ic).shape=.look 0\/(K ic).shape=.close 0))\/
 ((∃p n,s=.shut p/\t.act? p=some (.close c)/\t.heard p/\w.heap[c]?=some (.chan 0 #[] true n n false))/\la=0/\cn=0/\(K ic).shape=.gone 0)
def kR (gs:Array SG)(g:SG):Prop:=∃g0,gs[0]?=some g0/\g0.status=.running/\g0.frame=g.frame/\g0.callers=g.callers/\g0.dying=g.dying
def oA (gs:Array SG)(g:SG)(c:Nat):Prop:=∃g0 z,gs[0]?=some (parked g0 #[rcase c z] (.recv true))/\g0.frame=g.frame/\g0.callers=g.callers/\g0.dying=g.dying
structure Phase where
 c:Nat
 Wg:Nat
 Ss:List (List Spec)
 recv:Bool
def bJ (V:View)(Im:cE)(K:Nat->GS):Nat->View:=λi=>if i=0 then V else(K i).view Im
structure Inv (P:SJ)(n0:Nat)(W0:To)(V:View)(gs:Array SG)(w:To)(t:Un)(K:Nat->GS)(Im:cE)(ic:Nat)(ph:Option Phase)(st:Option eG):Prop where
 pos:0<gs.size
 k0:K 0=.gone 0
 d0:US t 0=V.deaf
 «is» : ∀ i g, 0 < i -> gs[i]? = some g -> match ph with
  |some p=>(K i).is P p.c p.Wg Im p.Ss (US t i) g
  |none=>∃q,K i=.gone q/\Y4 P q (US t i) g
 core:Core (bJ V Im K) gs.size w t (match ph with|some p=>ry p.c p.Wg|none=>λ_=>False)
  (λi=>match ph with|some p=>if p.recv then 0<i/\i<gs.size/\((K i).idx.isSome=true\/i=ic\/(K i).cnt=1\/(K i).late=1)else i=0\/(i<gs.size/\(K i).idx.isSome=true)|none=>False) ic n0 W0
 rest:Rest (match ph with|some p=>p.Wg|none=>0) t K ic st
 phase:match ph with
  |none=>st=none
  |some p=>n0<=p.c/\n0<=p.Wg/\p.c≠p.Wg/\p.c<w.heap.size/\p.Wg<w.heap.size/\p.Ss.length<=4/\
   (∀i,0<i->((K i).view Im).own p.c=none/\(∀o,((K i).view Im).ab p.c o=none)/\((K i).view Im).own p.Wg=none/\(∀o,((K i).view Im).ab p.Wg o=none)/\((K i).nK=true->i=ic))/\
   (∀i i' j,0<i->i<gs.size->0<i'->i'<gs.size->(K i).idx=some j->(K i').idx=some j->i=i')/\
   (∀j S,p.Ss[j]?=some S->S≠[]->∃i,0<i/\i<gs.size/\(K i).idx=some j)/\
   (if p.recv then(V.own p.c=none/\(∀o,V.ab p.c o=none)/\V.own p.Wg=none/\(∀o,V.ab p.Wg o=none))/\0<ic/\ic<gs.size/\(∃s,st=some s/\Mode P p.c p.Wg gs.size w gs t K ic s)
    else V.own p.c=some (.chan 0 #[] false 0 0 false)/\ic=0/\st=some .early/\(∀i,0<i->i<gs.size->(K i).idx.isSome=true\/∃q,K i=.gone q)/\(∀S∈p.Ss,S≠[])/\(sumTo gs.size λi=>(K i).cnt)=p.Ss.length)
theorem A8(K:Nat->GS)(k:GS)(φ:GS->Nat){i N:Nat}(hi:i<N):sumTo N (λa=>φ (upd K i k a))+φ (K i)=sumTo N (λa=>φ (K a))+φ k:=sumTo_upd K k φ hi
theorem lQ(K:Nat->GS)(k:GS)(φ:GS->Nat){i N:Nat}(h:φ k=φ (K i)):sumTo N (λa=>φ (upd K i k a))=sumTo N (λa=>φ (K a)):=
 Vl λa _=>by by_cases ha:a=i;subst ha;rw[bB,h];rw[ba _ _ ha]
theorem Core.BO{VV:Nat->View}{N:Nat}{w:To}{t:Un}{Sh:Loc->Prop}{act act':Nat->Prop}{ic n0:Nat}{W0:To}(h:Core VV N w t Sh act ic n0 W0)(ha:∀i,act' i->act i):Core VV N w t Sh act' ic n0 W0:=
 ⟨h.sat,h.dV,h.ti.weaken (SR _) (λ_ _ _ x=> .inl x) (λ_ _ _ x=>x) (λidx a x y=>⟨λhp i hi=>(h.ti.sp idx a x y).1 hp i (ha i hi),(h.ti.sp idx a x y).2⟩),h.tape,h.os,h.out,h.old,h.jD,h.n0⟩
theorem Core.congr{VV EC:Nat->View}{N:Nat}{w:To}{t:Un}{Sh:Loc->Prop}{act:Nat->Prop}{ic n0:Nat}{W0:To}(h:Core VV N w t Sh act ic n0 W0)(e:∀i,i<N->EC i=VV i):Core EC N w t Sh act ic n0 W0:=
 ⟨λi hi=>by rw[e i hi];exact h.sat i hi,λi j hi hj kI=>by rw[e i hi,e j hj];exact h.dV i j hi hj kI,
  h.ti.weaken (SR _) (λi l hi ⟨x,y,z⟩=> .inl ⟨x,by rw[<- e i hi];exact y,z⟩) (λi l hi ⟨x,y,z⟩=>⟨x,by rw[<- e i hi];exact y,z⟩) h.ti.sp,h.tape,h.os,h.out,h.old,λi hi b hb=>by rw[e i hi];exact h.jD i hi b hb,h.n0⟩
theorem N8(V:View)(Im:cE)(K:Nat->GS){i:Nat}(hi:0<i)(k:GS):bJ V Im (upd K i k)=upd (bJ V Im K) i (k.view Im):=by
 funext j;by_cases hj:j=i
 ·subst hj;rw[bB];simp[bJ,bB];omega
 ·rw[ba _ _ hj];simp[bJ,ba _ _ hj]
theorem aaC{P:SJ}{c Wg:Nat}{Im:cE}{Ss:List (List Spec)}{k:GS}{d:Nat}{x g g':SG}{w':To}(ho:(∃n,w'.heap[c]?=some (.chan 0 #[] false n n false))\/k.idx=none) (h:k.is P c Wg Im Ss d x):
  k.is P c Wg Im Ss d (woken P g g' w' x):=by
 rcases GS.runs h with hr|⟨hf,q,rfl⟩|⟨j,h',V,V',g0,v,z,rfl⟩|⟨⟨n,rfl⟩,hb,hof⟩
 ·rw[Yg hr];exact h
 ·rw[woken_quitsD h];exact h
 ·rcases ho with⟨n,ho⟩|ho
  ·obtain⟨h1,h2,rfl,h4⟩:=h;rw[woken_send_open _ _ ho];exact⟨h1,h2,rfl,h4⟩
  ·cases ho
 ·rcases h with h|⟨hn,g1,rfl,h⟩
  ·rw[cZ.running (λd g x=>x.2.1) h]at hb;cases hb
  ·unfold woken;split
   ·subst hn;refine .inl ?_;have e:({g1 with status:=atZ}:SG).again w'=g1:=by
     obtain⟨f,cs,s,dy,o⟩:=g1;have h2:=h.2.1;have h3:=h.2.2.1;simp only at h2 h3;subst h2 h3;rfl
    rw[e];exact h
   ·exact .inr ⟨hn,g1,rfl,h⟩
theorem MK{P:SJ}{gs:Array SG}{g:SG}{w':To}{i:Nat}{gi bH:SG}(hi:0<i)(h:kR gs g):kR ((gs.map (woken P gi bH w')).setIfInBounds i bH) g:=by
 obtain⟨g0,h0,h1,h2⟩:=h;exact⟨g0,by rw[SW (by omega),WC,h0];simp[Yg h1],h1,h2⟩
theorem M7{P:SJ}{gs:Array SG}{g:SG}{w':To}{i c:Nat}{gi bH:SG}(hi:0<i)(h:oA gs g c)(ho:∃n,w'.heap[c]?=some (.chan 0 #[] false n n false)):oA ((gs.map (woken P gi bH w')).setIfInBounds i bH) g c:=by
 obtain⟨g0,z,h0,h2⟩:=h;obtain⟨n,ho⟩:=ho;exact⟨g0,z,by rw[SW (by omega),WC,h0];simp[woken_recv_open _ _ ho],h2⟩
theorem aod{P:SJ}{gs:Array SG}{g:SG}{w':To}{i c:Nat}{gi bH:SG}(hi:0<i)(h:oA gs g c)(hw:mayWake P gi=true)(hs:bH.status=.running\/bH.status=.finished)(ho:∃n,w'.heap[c]?=some (.chan 0 #[] true n n false)):
  kR ((gs.map (woken P gi bH w')).setIfInBounds i bH) g:=by
 obtain⟨g0,z,h0,h2⟩:=h;obtain⟨n,ho⟩:=ho;refine⟨{parked g0 #[rcase c z] (.recv true)with status:=.running},?_,rfl,h2⟩;rw[SW (by omega),WC,h0];have:woken P gi bH w' (parked g0 #[rcase c z] (.recv true))={parked g0 #[rcase c z] (.recv true)with status:=.running}:=by
  unfold woken;have hc:(mayWake P gi&&bH.status != .blocked&&bH.status != .waiting)=true:=by rcases hs with hs|hs<;>simp[hw,hs]
  rw[if_pos hc,again_recv_closed ho]
 simp[this]
def zo (w:To)(c:Nat):Prop:=∃n,w.heap[c]?=some (.chan 0 #[] false n n false)
def Ii (gs gs':Array SG)(w w':To)(g:SG)(c:Nat):Prop:=(kR gs g->kR gs' g)/\(oA gs g c->zo w c->kR gs' g\/(oA gs' g c/\zo w' c))
def Calm (gs:Array SG):Prop:=∀i x,0<i->gs[i]?=some x->x.status=.blocked->x.offers=none
def flag (gs:Array SG)(ic:Nat):Nat:=if(gs[ic]?).any (·.status== .running)then 1 else 0
def jp (p:Phase)(N ic:Nat)(K:Nat->GS)(i:Nat):Prop:=if p.recv then 0<i/\i<N/\((K i).idx.isSome=true\/i=ic\/(K i).cnt=1\/(K i).late=1)else i=0\/(i<N/\(K i).idx.isSome=true)
section
variable {P:SJ}{n0:Nat}{W0:To}{V:View}{gs:Array SG}{w:To}{t:Un}{K:Nat->GS}{Im:cE}{ic:Nat}{ph:Option Phase}{st:Option eG}
structure gU (P:SJ)(n0:Nat)(W0:To)(V:View)(gs:Array SG)(w:To)(sl:Option (Nat×Nat))(t:Un)(K:Nat->GS)(Im:cE)(ic:Nat)(ph:Option Phase)(st:Option eG)(i:Nat):Prop where
 intro::
 atY:∃gs' w' ops K' st',runT P (crowd gs w sl) i=(.next (crowd gs' w' sl),ops)/\gs'.size=gs.size/\Inv P n0 W0 V gs' w' (t++ops) K' Im ic ph st'/\(∀g c,(∀p,ph=some p->p.c=c)->Ii gs gs' w w' g c)/\(∀g c,oA gs g c->Calm gs->Calm gs')/\
  Bx gs.size ((λj=>(K' j).di),flag gs' ic) ((λj=>(K j).di),flag gs ic)
theorem getElem?_next{gi bH:SG}{w':To}{i j:Nat}{x:SG}(hlt:i<gs.size)(h:((gs.map (woken P gi bH w')).setIfInBounds i bH)[j]?=some x):(j=i/\x=bH)\/(j≠i/\∃y,gs[j]?=some y/\x=woken P gi bH w' y):=by
 by_cases cy:j=i
 ·subst cy;rw[S_ (by simpa using hlt)]at h;exact .inl ⟨rfl,(Vj h).symm⟩
 ·rw[SW (Ne.symm cy),WC]at h;obtain⟨y,hy,rfl⟩:=Tp.1 h;exact .inr ⟨cy,y,hy,rfl⟩
theorem Rest.app{Wg:Nat}{t u:Un}{K K':Nat->GS}{ic:Nat}{s s':eG}(h:Rest Wg t K ic (some s))(hold:∀idx a,touchAt t idx=some a->xh Wg t K ic s idx->Wm (t++u) 0 idx\/xh Wg (t++u) K' ic s' idx)
  (wC:∀idx a,t.size<=idx->(∃op∈u,(t++u)[idx]?=some op/\op.act.touch?=some a)->a.loc.isMemory=true->Wm (t++u) 0 idx\/(a.kind=.atomic/\¬(t++u).heard idx)\/xh Wg (t++u) K' ic s' idx):Rest Wg (t++u) K' ic (some s'):=by
 intro idx a ha hm;rcases A9 ha with gL|⟨hi,hx⟩
 ·obtain⟨op,ay,_⟩:=UT gL;rcases h idx a gL hm with x|⟨x,y⟩|⟨s1,dN,x⟩
  ·exact .inl (x.app u)
  ·exact .inr (.inl ⟨x,λz=>y ((Wq (TH ay)).1 z)⟩)
  ·cases dN;exact(hold idx a gL x).imp id λy=> .inr ⟨s',rfl,y⟩
 ·exact(wC idx a hi hx hm).imp id (λy=>y.imp id λz=>⟨s',rfl,z⟩)
theorem xh.app{Wg:Nat}{t u:Un}{K K':Nat->GS}{ic idx:Nat}{s:eG}(dg:idx<t.size)(h:xh Wg t K ic s idx)(hK:∀i,t.g? idx=some i->0<i->(K i).idx.isSome=true->(K' i).idx.isSome=true\/∃r,Rel Wg (t++u) i r/\idx<=r):xh Wg (t++u) K' ic s idx:=by
 cases s with
 |early=>
  obtain⟨i,hg,h0,hx⟩:=h;refine⟨i,by rw[g?_old dg];exact hg,h0,?_⟩;rcases hx with x|x|⟨r,x,y⟩
  ·exact(hK i hg h0 x).imp id .inr
  ·exact .inr (.inl x)
  ·exact .inr (.inr ⟨r,x.app,y⟩)
 |got=>exact Knows.app u h
 |shut p=>exact Before.app u h
end
def sB (ph:Option Phase):Loc->Prop:=match ph with|some p=>ry p.c p.Wg|none=>λ_=>False
def nE (ph:Option Phase)(N ic:Nat)(K:Nat->GS):Nat->Prop:=λi=>match ph with|some p=>jp p N ic K i|none=>False
def Ba (ph:Option Phase):Nat:=match ph with|some p=>p.Wg|none=>0
section
variable {P:SJ}{n0:Nat}{W0:To}{V:View}{gs:Array SG}{w w':To}{sl:Option (Nat×Nat)}{t:Un}{K:Nat->GS}{Im:cE}{ic:Nat}{ph:Option Phase}{st st':Option eG}
def zp (P:SJ)(n0:Nat)(V:View)(gs:Array SG)(w:To)(t:Un)(K:Nat->GS)(Im:cE)(ic:Nat)(ph:Option Phase)(st:Option eG):Prop:=match ph with
  |none=>st=none
  |some p=>n0<=p.c/\n0<=p.Wg/\p.c≠p.Wg/\p.c<w.heap.size/\p.Wg<w.heap.size/\p.Ss.length<=4/\
   (∀i,0<i->((K i).view Im).own p.c=none/\(∀o,((K i).view Im).ab p.c o=none)/\((K i).view Im).own p.Wg=none/\(∀o,((K i).view Im).ab p.Wg o=none)/\((K i).nK=true->i=ic))/\
   (∀i i' j,0<i->i<gs.size->0<i'->i'<gs.size->(K i).idx=some j->(K i').idx=some j->i=i')/\
   (∀j S,p.Ss[j]?=some S->S≠[]->∃i,0<i/\i<gs.size/\(K i).idx=some j)/\
   (if p.recv then(V.own p.c=none/\(∀o,V.ab p.c o=none)/\V.own p.Wg=none/\(∀o,V.ab p.Wg o=none))/\0<ic/\ic<gs.size/\(∃s,st=some s/\Mode P p.c p.Wg gs.size w gs t K ic s)
    else V.own p.c=some (.chan 0 #[] false 0 0 false)/\ic=0/\st=some .early/\(∀i,0<i->i<gs.size->(K i).idx.isSome=true\/∃q,K i=.gone q)/\(∀S∈p.Ss,S≠[])/\(sumTo gs.size λi=>(K i).cnt)=p.Ss.length)
def Bq (P:SJ)(Im:cE)(ph:Option Phase)(k:GS)(d:Nat)(g:SG):Prop:=match ph with
  |some p=>k.is P p.c p.Wg Im p.Ss d g
  |none=>∃q,k=.gone q/\Y4 P q d g
theorem Inv.mk'(pos:0<gs.size)(k0:K 0=.gone 0)(d0:US t 0=V.deaf)(du:∀i g,0<i->gs[i]?=some g->Bq P Im ph (K i) (US t i) g)
  (hc:Core (bJ V Im K) gs.size w t (sB ph) (nE ph gs.size ic K) ic n0 W0) (hr:Rest (Ba ph) t K ic st) (hp:zp P n0 V gs w t K Im ic ph st):Inv P n0 W0 V gs w t K Im ic ph st:=by
 cases ph with
 |none=>exact⟨pos,k0,d0,du,hc,hr,hp⟩
 |some p=>exact⟨pos,k0,d0,du,hc,hr,hp⟩
theorem Inv.out(h:Inv P n0 W0 V gs w t K Im ic ph st):(∀i g,0<i->gs[i]?=some g->Bq P Im ph (K i) (US t i) g)/\Core (bJ V Im K) gs.size w t (sB ph) (nE ph gs.size ic K) ic n0 W0/\Rest (Ba ph) t K ic st/\zp P n0 V gs w t K Im ic ph st:=by
 cases ph with
 |none=>exact⟨h.is,h.core,h.rest,h.phase⟩
 |some p=>exact⟨h.is,h.core,h.rest,h.phase⟩
theorem agr{y:SG}(hy:y.status=.blocked->y.offers=none):(y.again w').status=.blocked->(y.again w').offers=none:=by
 obtain⟨f,cs,s,d,o⟩:=y;unfold YS;cases s<;>cases o<;>simp_all
theorem ags{g g' y:SG}(hy:y.status=.blocked->y.offers=none)(hb:(woken P g g' w' y).status=.blocked):(woken P g g' w' y).offers=none:=by
 unfold woken at hb⊢;split
 ·rename_i hh;rw[if_pos hh]at hb;exact agr hy hb
 ·rename_i hh;rw[if_neg hh]at hb;exact hy hb
theorem Inv.abk(h:Inv P n0 W0 V gs w t K Im ic ph st){i:Nat}{gi bH:SG}{es:Array Ur}{k':GS}(hi:0<i)(aL:gs[i]?=some gi)(aR:stepG P false gi w=.go bH w' es)
  (hk:Bq P Im ph k' (deafBehind (US t i) es) bH) (tz:bH.status=.blocked->bH.offers=none) (g_:∀p,ph=some p->(∃n,w'.heap[p.c]?=some (.chan 0 #[] false n n false))\/(∀j,0<j->j<gs.size->j≠i->(K j).idx=none))
  (ya:Core (bJ V Im (upd K i k')) gs.size w' (t++Ta i gi.frame.fn gi.frame.place es) (sB ph) (nE ph gs.size ic (upd K i k')) ic n0 W0)
  (l_:Rest (Ba ph) (t++Ta i gi.frame.fn gi.frame.place es) (upd K i k') ic st')
  (CW:zp P n0 V ((gs.map (woken P gi bH w')).setIfInBounds i bH) w' (t++Ta i gi.frame.fn gi.frame.place es) (upd K i k') Im ic ph st')
  (jS:Bx gs.size ((λj=>(upd K i k' j).di),flag ((gs.map (woken P gi bH w')).setIfInBounds i bH) ic) ((λj=>(K j).di),flag gs ic))
  (pM:∀g c,(∀p,ph=some p->p.c=c)->Ii gs ((gs.map (woken P gi bH w')).setIfInBounds i bH) w w' g c):gU P n0 W0 V gs w sl t K Im ic ph st i:=by
 have hlt:i<gs.size:=(SU.1 aL).1;have eQ:(i==0)=false:=by simp;omega
 have aY:((gs.map (woken P gi bH w')).setIfInBounds i bH).size=gs.size:=by simp
 have C5:∀op∈Ta i gi.frame.fn gi.frame.place es,op.g=i:=λop ay=>by obtain⟨e,_,rfl⟩:=TL ay;rfl
 refine⟨_,w',_,upd K i k',st',runT_crowd_go (P:=P) (sl:=sl) aL (by rw[eQ];exact aR),aY,?_,pM,?_,jS⟩
 rotate_left
 ·intro g c _ hc j x hj hx hb;rcases getElem?_next hlt hx with⟨_,rfl⟩|⟨_,y,hy,rfl⟩
  ·exact tz hb
  ·exact ags (hc j y hj hy) hb
 refine Inv.mk' (by rw[aY];exact h.pos) (by rw[ba _ _ (by omega)];exact h.k0) ?_ (λj x hj hx=> ?_) (by rw[aY];exact ya) l_ CW
 ·rw[at1 t (g:=0) (g':=i) (by omega) _ C5];exact h.d0
 ·rcases getElem?_next hlt hx with⟨rfl,rfl⟩|⟨cy,y,hy,rfl⟩
  ·rw[bB,Deaf_own];exact hk
  ·rw[ba _ _ cy,at1 t (g:=j) (g':=i) (Ne.symm cy) _ C5];have De:=h.out.1 j y hj hy;have KX:j<gs.size:=(SU.1 hy).1;cases ph with
   |none=>
    obtain⟨q,hq,pY⟩:=De;exact⟨q,hq,by rw[woken_quitsD pY];exact pY⟩
   |some p=>
    refine aaC ?_ De;rcases g_ p rfl with x|x
    ·exact .inl x
    ·exact .inr (x j hj KX cy)
theorem Inv.next(h:Inv P n0 W0 V gs w t K Im ic ph st){i:Nat}{gi bH:SG}{es:Array Ur}{k':GS}(hi:0<i)(aL:gs[i]?=some gi)(aR:stepG P false gi w=.go bH w' es)
  (hk:Bq P Im ph k' (deafBehind (US t i) es) bH) (tz:bH.status=.blocked->bH.offers=none) (g_:∀p,ph=some p->(∃n,w'.heap[p.c]?=some (.chan 0 #[] false n n false))\/(∀j,0<j->j<gs.size->j≠i->(K j).idx=none))
  (ya:Core (bJ V Im (upd K i k')) gs.size w' (t++Ta i gi.frame.fn gi.frame.place es) (sB ph) (nE ph gs.size ic (upd K i k')) ic n0 W0)
  (l_:Rest (Ba ph) (t++Ta i gi.frame.fn gi.frame.place es) (upd K i k') ic st')
  (CW:zp P n0 V ((gs.map (woken P gi bH w')).setIfInBounds i bH) w' (t++Ta i gi.frame.fn gi.frame.place es) (upd K i k') Im ic ph st')
  (u5:rq k'.di (K i).di)
  (pM:∀g c,(∀p,ph=some p->p.c=c)->Ii gs ((gs.map (woken P gi bH w')).setIfInBounds i bH) w w' g c):gU P n0 W0 V gs w sl t K Im ic ph st i:=
 h.abk hi aL aR hk tz g_ ya l_ CW (.inl ⟨i,(SU.1 aL).1,by simpa only[bB]using u5,λj hj=>by show (upd K i k' j).di=(K j).di;rw[ba _ _ hj]⟩) pM
theorem ant{B:Nat}{e:Ur}(h:e.mute=true):(Tq e).touch?=none/\(Tq e).low B/\∀a,Tq e≠ .mark (.release a):=by
 refine⟨ZT h,low_mute h B,λa=> ?_⟩;obtain⟨l,wr,sy⟩:=e;cases l with
 |mark m=>cases m<;>cases wr<;>cases sy<;>simp_all[Tq,WF]
 |_=>simp[WF]at h
theorem Mode.keep{c Wg N:Nat}{gs':Array SG}{u:Un}{K':Nat->GS}{s:eG}(h:Mode P c Wg N w gs t K ic s)(hs:∀j,(K' j).shape=(K j).shape)(hc:w'.heap[c]?=w.heap[c]?)(hW:w'.heap[Wg]?=w.heap[Wg]?)
  (hr:(∀g,gs[ic]?=some g->g.status=.running)->∀g,gs'[ic]?=some g->g.status=.running):Mode P c Wg N w' gs' (t++u) K' ic s:=by
 have e1:sumTo N (λi=>(K' i).cnt)=sumTo N λi=>(K i).cnt:=Vl λi _=>by rw[<- GS.nL,hs i,GS.nL]
 have e2:sumTo N (λi=>(K' i).late)=sumTo N λi=>(K i).late:=Vl λi _=>by rw[<- GS.mO,hs i,GS.mO]
 have e3:∀st sm,WgAt P Wg w' st sm=WgAt P Wg w st sm:=λst sm=>by unfold WgAt;rw[hW]
 unfold Mode at h⊢;simp only[e1,e2,e3,hs,hc];rcases h with h|h|h|h|h|h|h
 ·exact .inl h
 ·exact .inr (.inl h)
 ·exact .inr (.inr (.inl h))
 ·exact .inr (.inr (.inr (.inl ⟨h.1,h.2.1,h.2.2.1,h.2.2.2.1,h.2.2.2.2.1,hr h.2.2.2.2.2.1,h.2.2.2.2.2.2⟩)))
 ·exact .inr (.inr (.inr (.inr (.inl h))))
 ·exact .inr (.inr (.inr (.inr (.inr (.inl h)))))
 ·obtain⟨⟨p,n,a,b,c',d⟩,e⟩:=h;exact .inr (.inr (.inr (.inr (.inr (.inr ⟨⟨p,n,a,by rw[X2 (Wa b)];exact b,(Wq (Wa b)).2 c',d⟩,e⟩)))))
theorem acj{i:Nat}{gi bH:SG}(hlt:i<gs.size)(hg:bH.status=.running)(h:∀g,gs[ic]?=some g->g.status=.running):∀g,((gs.map (woken P gi bH w')).setIfInBounds i bH)[ic]?=some g->g.status=.running:=by
 intro g KE;rcases getElem?_next hlt KE with⟨_,rfl⟩|⟨_,y,hy,rfl⟩
 ·exact hg
 ·rw[Yg (h y hy)];exact h y hy
theorem GS.aax{k:GS}(h:k.cnt=0):k.idx=none:=by
 cases k<;>first|rfl|(simp[GS.cnt]at h)
theorem Inv.opens(h:Inv P n0 W0 V gs w t K Im ic ph st){p:Phase}(hp:ph=some p):(∃n,w.heap[p.c]?=some (.chan 0 #[] false n n false))\/((∀j,0<j->j<gs.size->(K j).idx=none)/\(∃n,w.heap[p.c]?=some (.chan 0 #[] true n n false))/\p.recv=true):=by
 subst hp;obtain⟨_,hc,_,hO⟩:=h.out;obtain⟨_,_,_,_,_,_,_,_,_,hx⟩:=hO;by_cases hr:p.recv=true
 ·rw[if_pos hr]at hx;obtain⟨_,_,_,s,_,hm⟩:=hx;rcases hm with h|h|h|h|h|h|h
  ·exact .inl h.1
  ·exact .inl h.1
  ·exact .inl h.1
  ·exact .inl h.1
  ·exact .inl h.1
  ·exact .inl h.1
  ·obtain⟨⟨_,n,_,_,_,hn⟩,_,fX,_⟩:=h;refine .inr ⟨λj hj dM=> ?_,⟨n,hn⟩,hr⟩;have hle:(K j).cnt<=sumTo gs.size λi=>(K i).cnt:=WB (f:=λi=>(K i).cnt) dM;exact GS.aax (by omega)
 ·rw[if_neg hr]at hx;have:=(hc.sat 0 h.pos).own p.c _ (by simp only[bJ,if_true];exact hx.1);exact .inl ⟨0,this⟩
theorem Inv.slip(h:Inv P n0 W0 V gs w t K Im ic ph st){i:Nat}{gi bH:SG}{es:Array Ur}{k':GS}(hi:0<i)(aL:gs[i]?=some gi)(aR:stepG P false gi w=.go bH w es)(jS:∀e∈es,e.mute=true)
  (hk:Bq P Im ph k' (deafBehind (US t i) es) bH) (tz:bH.status=.blocked->bH.offers=none) (ee:k'.shape=(K i).shape) (mK:k'.view Im=(K i).view Im) (bO:(K i).shape=.iE 0\/(K i).shape=.said 0->bH.status=.running) (u5:rq k'.di (K i).di):gU P n0 W0 V gs w sl t K Im ic ph st i:=by
 have hlt:i<gs.size:=(SU.1 aL).1;obtain⟨_,hc,hr,hp⟩:=h.out;have dg:∀j,((upd K i k') j).idx=(K j).idx:=λj=>by
  by_cases hj:j=i
  ·subst hj;rw[bB,<- GS.Gx,ee,GS.Gx]
  ·rw[ba _ _ hj]
 have ma:∀j,((upd K i k') j).shape=(K j).shape:=λj=>by
  by_cases hj:j=i
  ·subst hj;rw[bB,ee]
  ·rw[ba _ _ hj]
 have aau:∀j,((upd K i k') j).view Im=(K j).view Im:=λj=>by
  by_cases hj:j=i
  ·subst hj;rw[bB,mK]
  ·rw[ba _ _ hj]
 have pC:∀j,((upd K i k') j).cnt=(K j).cnt:=λj=>by rw[<- GS.nL,ma,GS.nL]
 have wA:∀j,((upd K i k') j).late=(K j).late:=λj=>by rw[<- GS.mO,ma,GS.mO]
 refine h.next (st':=st) hi aL aR hk tz (λp Ap=>(h.opens Ap).imp id λx j a b _=>x.1 j a b) ?_ ?_ ?_ u5 ?_
 ·refine((hc.quiet hlt (λe he=>ant (jS e he)) gi.frame.fn gi.frame.place).congr λj hj=> ?_).BO λj hj=> ?_
  ·simp only[bJ,aau]
  ·cases ph with
   |none=>exact hj
   |some p=>simpa only[nE,jp,dg,pC,wA]using hj
 ·cases st with
  |none=>
   intro idx a ha hm;have gL:=A_ (λop ay=>by obtain⟨e,he,rfl⟩:=TL ay;exact ZT (jS e he)) ha;obtain⟨op,ay,_⟩:=UT gL;rcases hr idx a gL hm with x|⟨x,y⟩|⟨_,z,_⟩
   ·exact .inl (x.app _)
   ·exact .inr (.inl ⟨x,λz=>y ((Wq (TH ay)).1 z)⟩)
   ·cases z
  |some s=>
   refine hr.app (λidx a ha hx=> .inr (hx.app (by obtain⟨op,ay,_⟩:=UT ha;exact TH ay) λj _ _ hj=> .inl (by rw[dg];exact hj))) (λidx a _ ⟨op,ay,_,hx⟩ _=> ?_);obtain⟨e,he,rfl⟩:=TL ay;rw[ZT (jS e he)]at hx;cases hx
 ·cases ph with
  |none=>exact hp
  |some p=>
   obtain⟨a1,a2,a3,a4,a5,a6,a7,a8,a9,b8⟩:=hp;refine⟨a1,a2,a3,a4,a5,a6,λj hj=>by rw[aau,<- GS.Px,ma,GS.Px];exact a7 j hj,λj j' m b1 b2 b3 b4 b5 b6=>a8 j j' m b1 (by simpa using b2) b3 (by simpa using b4) (by rw[<- dg];exact b5) (by rw[<- dg];exact b6),λj S b1 b2=> ?_,?_⟩
   ·obtain⟨m,c1,c2,c3⟩:=a9 j S b1 b2;exact⟨m,c1,by simpa using c2,by rw[dg];exact c3⟩
   ·split
    ·rename_i aH;rw[if_pos aH]at b8;obtain⟨c1,c2,c3,s,c4,c5⟩:=b8;refine⟨c1,c2,by simpa using c3,s,c4,?_⟩;have aY:((gs.map (woken P gi bH w)).setIfInBounds i bH).size=gs.size:=(by simp);rw[aY];by_cases gw:i=ic/\bH.status≠ .running
     ·
      obtain⟨rfl,rX⟩:=gw;unfold Mode at c5⊢;have e1:sumTo gs.size (λj=>((upd K i k') j).cnt)=sumTo gs.size λj=>(K j).cnt:=Vl λj _=>pC j;have e2:sumTo gs.size (λj=>((upd K i k') j).late)=sumTo gs.size λj=>(K j).late:=Vl λj _=>wA j;simp only[e1,e2,ma];rcases c5 with h|h|h|h|h|h|h
      ·exact .inl h
      ·exact .inr (.inl h)
      ·exact .inr (.inr (.inl h))
      ·exact absurd (bO h.2.2.2.2.2.2.symm) rX
      ·exact .inr (.inr (.inr (.inr (.inl h))))
      ·exact .inr (.inr (.inr (.inr (.inr (.inl h)))))
      ·obtain⟨⟨p,n,a,b,c',d⟩,e⟩:=h;exact .inr (.inr (.inr (.inr (.inr (.inr ⟨⟨p,n,a,by rw[X2 (Wa b)];exact b,(Wq (Wa b)).2 c',d⟩,e⟩)))))
     ·refine c5.keep ma rfl rfl λr6 g hg=> ?_;rcases getElem?_next hlt hg with⟨rfl,rfl⟩|⟨_,y,hy,rfl⟩
      ·exact Ts λx=>gw ⟨rfl,x⟩
      ·rw[Yg (r6 y hy)];exact r6 y hy
    ·rename_i aH;rw[if_neg aH]at b8;refine⟨b8.1,b8.2.1,b8.2.2.1,λj b1 b2=> ?_,b8.2.2.2.2.1,?_⟩
     rotate_left
     ·rw[show ((gs.map (woken P gi bH w)).setIfInBounds i bH).size=gs.size by simp,Vl λj _=>pC j];exact b8.2.2.2.2.2
     rcases b8.2.2.2.1 j b1 (by simpa using b2)with x|⟨q,x⟩
     ·exact .inl (by rw[dg];exact x)
     ·by_cases hj:j=i
      ·subst hj;rw[bB];rw[x]at ee;cases k'<;>simp[GS.shape]at ee;exact .inr ⟨_,rfl⟩
      ·rw[ba _ _ hj];exact .inr ⟨q,x⟩
 ·intro g c _;exact⟨MK hi,λjx ho=> .inr ⟨M7 hi jx ho,ho⟩⟩
end
section
variable {P:SJ}{n0:Nat}{W0:To}{V:View}{gs:Array SG}{w w':To}{sl:Option (Nat×Nat)}{t:Un}{K:Nat->GS}{Im:cE}{ic:Nat}{p:Phase}{st st':Option eG}
def jI (p:Phase)(U:View):Prop:=U.own p.c=none/\(∀o,U.ab p.c o=none)/\U.own p.Wg=none/\(∀o,U.ab p.Wg o=none)
theorem jI.step{U U':View}{es:Array Ur}(b:jI p U)(s:dq U w U' w' es)(hc:p.c<w.heap.size)(hW:p.Wg<w.heap.size):jI p U':=by
 have key:∀b,b<w.heap.size->U.own b=none->(∀o,U.ab b o=none)->U'.own b=none/\∀o,U'.ab b o=none:=by
  intro b hb ho hi;refine⟨s.own b hb ho,λo=> ?_⟩;cases e:U'.ab b o with
  |none=>rfl
  |some v=>
   rcases s.ld b o v e with x|x|x
   ·rw[hi o]at x;cases x
   ·exact absurd ho x
   ·omega
 have k1:=key p.c hc b.1 b.2.1;have k2:=key p.Wg hW b.2.2.1 b.2.2.2;exact⟨k1.1,k1.2,k2.1,k2.2⟩
theorem jI.AJ{U:View}(b:jI p U){l:Loc}(h:ig U l):¬ry p.c p.Wg l:=by
 intro hs;cases l with
 |cell a=>
  have e:a.block=p.Wg:=hs;rcases h with h|h
  ·exact h (by rw[e];exact b.2.2.1)
  ·exact h (by rw[e];exact b.2.2.2 _)
 |obj r=>have e:r=p.c:=hs;exact h (by rw[e];exact b.1)
 |_=>exact hs
theorem jI.ghost{U U':View}(b:jI p U)(g:ej U U'):jI p U':=by
 have key:∀b,U.own b=none->(∀o,U.ab b o=none)->U'.own b=none/\∀o,U'.ab b o=none:=by
  intro b ho hi;refine⟨g.own b ho,λo=> ?_⟩;cases e:U'.ab b o with
  |none=>rfl
  |some v=>
   rcases g.ld b o v e with x|x
   ·rw[hi o]at x;cases x
   ·exact absurd ho x
 have k1:=key p.c b.1 b.2.1;have k2:=key p.Wg b.2.2.1 b.2.2.2;exact⟨k1.1,k1.2,k2.1,k2.2⟩
theorem af7:jI p noView:=⟨rfl,λ_=>rfl,rfl,λ_=>rfl⟩
theorem Inv.blind(h:Inv P n0 W0 V gs w t K Im ic (some p) st){i:Nat}(hi:0<i):jI p ((K i).view Im):=let x:=h.phase.2.2.2.2.2.2.1 i hi;⟨x.1,x.2.1,x.2.2.1,x.2.2.2.1⟩
theorem Inv.sD(h:Inv P n0 W0 V gs w t K Im ic (some p) st){i:Nat}(hi:0<i)(hc:(K i).nK=true):i=ic:=(h.phase.2.2.2.2.2.2.1 i hi).2.2.2.2 hc
theorem Inv.low(h:Inv P n0 W0 V gs w t K Im ic (some p) st):p.c<w.heap.size/\p.Wg<w.heap.size:=⟨h.phase.2.2.2.1,h.phase.2.2.2.2.1⟩
theorem acK(hc:p.c<w.heap.size)(hW:p.Wg<w.heap.size){l:Loc}(h:ry p.c p.Wg l):l.low w.heap.size:=by
 cases l with
 |cell a=>show a.block<_;rw[show a.block=p.Wg from h];exact hW
 |obj r=>show r<_;rw[show r=p.c from h];exact hc
 |_=>exact h.elim
theorem Inv.agE(h:Inv P n0 W0 V gs w t K Im ic (some p) st)(hr:p.recv=true){i:Nat}(hlt:i<gs.size)(hk:(K i).cnt=1):∃s,WgAt P p.Wg w s 0:=by
 obtain⟨_,_,_,_,_,_,_,_,_,hx⟩:=h.phase;rw[if_pos hr]at hx;obtain⟨_,_,_,s,hs,hm⟩:=hx;have hle:(K i).cnt<=sumTo gs.size λi=>(K i).cnt:=WB (f:=λi=>(K i).cnt) hlt;rcases hm with h|h|h|h|h|h|h
 ·exact⟨_,h.2.2.2.2.1⟩
 ·exact⟨_,h.2.2.2.2.2.1⟩
 ·have:=h.2.2.2.1;omega
 ·have:=h.2.2.2.1;omega
 ·have:=h.2.2.2.1;omega
 ·have:=h.2.2.2.1;omega
 ·have:=h.2.2.1;omega
theorem Inv.OK(h:Inv P n0 W0 V gs w t K Im ic (some p) st)(hr:p.recv=true){n:Nat}(hk:K ic=.acq n\/K ic=.said n):∃x y,WgAt P p.Wg w x y:=by
 obtain⟨_,_,_,_,_,_,_,_,_,hx⟩:=h.phase;rw[if_pos hr]at hx;obtain⟨_,_,_,s,hs,hm⟩:=hx;unfold Mode at hm;rcases hm with h|h|h|h|h|h|h
 ·exact⟨_,_,h.2.2.2.2.1⟩
 ·exact⟨_,_,h.2.2.2.2.2.1⟩
 ·have key:∀N,0<(sumTo N λi=>(K i).late)->∃i,i<N/\(K i).late≠0:=by
   intro N;induction N with
   |zero=>intro h;exact absurd h (by simp[sumTo])
   |succ N ih=>
    intro h;by_cases h0:(K N).late=0
    ·simp only[sumTo,h0]at h;obtain⟨i,hi,hl⟩:=ih (by omega);exact⟨i,by omega,hl⟩
    ·exact⟨N,by omega,h0⟩
  have:=key gs.size (by have:=h.2.2.1;omega);obtain⟨i,hi,hl⟩:=this;cases lB:K i<;>rw[lB]at hl<;>first
   |exact⟨_,_,h.2.2.2.2.2.1 i hi (by rw[lB];exact .inl rfl)⟩
   |exact⟨_,_,h.2.2.2.2.2.1 i hi (by rw[lB];exact .inr rfl)⟩
   |exact⟨_,_,h.2.2.2.2.2.2 i hi (by rw[lB];rfl)⟩
   |exact absurd rfl hl
 ·exact⟨_,_,h.2.2.2.2.1⟩
 ·exact⟨_,_,h.2.2.2.2.1⟩
 ·exfalso;rcases hk with hk|hk<;>rw[hk]at h<;>rcases h.2.2.2.2 with h|h<;>cases h
 ·exfalso;rcases hk with hk|hk<;>rw[hk]at h<;>cases h.2.2.2
theorem Inv.counted(h:Inv P n0 W0 V gs w t K Im ic (some p) st){i:Nat}(_hi:0<i)(hlt:i<gs.size)(hk:(K i).cnt=1):(∃n,w.heap[p.c]?=some (.chan 0 #[] false n n false))/\st=some .early:=by
 have hO:=h.phase;obtain⟨_,_,_,_,_,_,_,_,_,hx⟩:=hO;by_cases hr:p.recv=true
 ·rw[if_pos hr]at hx;obtain⟨_,_,_,s,hs,hm⟩:=hx;have hle:(K i).cnt<=sumTo gs.size λi=>(K i).cnt:=WB (f:=λi=>(K i).cnt) hlt;rcases hm with h|h|h|h|h|h|h
  ·exact⟨h.1,by rw[hs,h.2.1]⟩
  ·exact⟨h.1,by rw[hs,h.2.1]⟩
  ·exact⟨h.1,by rw[hs,h.2.1]⟩
  ·exact⟨h.1,by rw[hs,h.2.1]⟩
  ·exact⟨h.1,by rw[hs,h.2.1]⟩
  ·have:=h.2.2.2.1;omega
  ·have:=h.2.2.1;omega
 ·rw[if_neg hr]at hx;have:=(h.core.sat 0 h.pos).own p.c _ (by simp only[bJ,if_true];exact hx.1);exact⟨⟨0,this⟩,hx.2.2.1⟩
theorem Inv.M_(h:Inv P n0 W0 V gs w t K Im ic (some p) st){i:Nat}{k':GS}{gs':Array SG}{t':Un}(aY:gs'.size=gs.size)(je:w.heap.size<=w'.heap.size)(hb:jI p (k'.view Im))(x9:k'.nK=true->i=ic)
  (dg:k'.idx=(K i).idx\/(k'.idx=none/\∀j,(K i).idx=some j->p.Ss[j]?=some []))
  (eB:if p.recv then∃s,st'=some s/\Mode P p.c p.Wg gs.size w' gs' t' (upd K i k') ic s
    else st'=some .early/\k'.idx.isSome=true/\k'.cnt=(K i).cnt):zp P n0 V gs' w' t' (upd K i k') Im ic (some p) st':=by
 obtain⟨a1,a2,a3,a4,a5,a6,a7,a8,a9,b8⟩:=h.phase;have tH:∀j m,((upd K i k') j).idx=some m->(K j).idx=some m:=by
  intro j m hj;by_cases cy:j=i
  ·subst cy;rw[bB]at hj;rcases dg with x|⟨x,_⟩
   ·rw[<- x];exact hj
   ·rw[x]at hj;cases hj
  ·rw[ba _ _ cy]at hj;exact hj
 refine⟨a1,a2,a3,Tc a4 je,Tc a5 je,a6,λj hj=> ?_,λj j' m b1 b2 b3 b4 b5 b6=>a8 j j' m b1 (aY▸b2) b3 (aY▸b4) (tH _ _ b5) (tH _ _ b6),λj S b1 b2=> ?_,?_⟩
 ·by_cases cy:j=i
  ·subst cy;rw[bB];exact⟨hb.1,hb.2.1,hb.2.2.1,hb.2.2.2,x9⟩
  ·rw[ba _ _ cy];exact a7 j hj
 ·obtain⟨m,c1,c2,c3⟩:=a9 j S b1 b2;refine⟨m,c1,by rw[aY];exact c2,?_⟩;by_cases da:m=i
  ·subst da;rw[bB];rcases dg with x|⟨_,x⟩
   ·rw[x];exact c3
   ·have:=x j c3;rw[this]at b1;cases b1;exact absurd rfl b2
  ·rw[ba _ _ da];exact c3
 ·split
  ·rename_i aH;rw[if_pos aH]at b8 eB;obtain⟨c1,c2,c3,_⟩:=b8;exact⟨c1,c2,by rw[aY];exact c3,by rw[aY];exact eB⟩
  ·rename_i aH;rw[if_neg aH]at b8 eB;obtain⟨c1,c2,_,c4,c5⟩:=b8;refine⟨c1,c2,eB.1,λj b1 b2=> ?_,c5.1,by rw[aY,lQ K k' GS.cnt eB.2.2];exact c5.2⟩;by_cases cy:j=i
   ·subst cy;rw[bB];exact .inl eB.2.1
   ·rw[ba _ _ cy];exact c4 j b1 (aY▸b2)
theorem Inv.adN(h:Inv P n0 W0 V gs w t K Im ic (some p) st){i j:Nat}{gi bH:SG}{es:Array Ur}{hh h':Ht}{Vi V':View}(hi:0<i)(aL:gs[i]?=some gi)(hK:K i=.work j hh Vi)(aR:stepG P false gi w=.go bH w' es)
  (s:dq Vi w V' w' es) (hk:lV P h' V' bH) (mG:Bp h' hh):gU P n0 W0 V gs w sl t K Im ic (some p) st i:=by
 have hlt:i<gs.size:=(SU.1 aL).1;have du:=h.is i gi hi aL;simp only[hK,GS.is]at du;obtain⟨hd,_,S,hS,jz⟩:=du;have fX:(K i).cnt=1:=by rw[hK];rfl
 obtain⟨⟨n,g_⟩,lI⟩:=h.counted hi hlt fX;have iH:=h.low;have cT:jI p Vi:=by have:=h.blind hi;rw[hK]at this;exact this
 have ajQ:=cT.step s iH.1 iH.2;have mK:bJ V Im K i=Vi:=by simp[bJ,hK,GS.view];omega
 have fx:w'.heap[p.c]?=w.heap[p.c]?:=s.frame p.c iH.1 cT.1;have hWh:w'.heap[p.Wg]?=w.heap[p.Wg]?:=s.frame p.Wg iH.2 cT.2.2.1;have ma:∀m,((upd K i (.work j h' V')) m).shape=(K m).shape:=λm=>by
  by_cases hm:m=i
  ·subst hm;rw[bB,hK];rfl
  ·rw[ba _ _ hm]
 have dg:∀m,((upd K i (.work j h' V')) m).idx=(K m).idx:=λm=>by rw[<- GS.Gx,ma,GS.Gx]
 have pC:∀m,((upd K i (.work j h' V')) m).cnt=(K m).cnt:=λm=>by rw[<- GS.nL,ma,GS.nL]
 have wA:∀m,((upd K i (.work j h' V')) m).late=(K m).late:=λm=>by rw[<- GS.mO,ma,GS.mO]
 have cp:V'.role=Vi.role:=s.role;refine h.next (k':=.work j h' V') (st':=st) hi aL aR ⟨by rw[hd,s.deaf],hk,S,hS,cp.trans jz⟩ (λx=>by rw[hk.running]at x;cases x) (λq hq=>by cases hq;exact .inl ⟨n,by rw[fx];exact g_⟩) ?_ ?_ ?_ ?_ ?_
 ·rw[N8 V Im K hi];refine(Core.step (V':=V') h.core hlt (by rw[mK];exact s) (λe he x hx hs=> ?_) gi.frame.fn gi.frame.place).BO λm hm=> ?_
  ·exfalso;rcases(Jh (s.fD e he) hx).1 with y|⟨y,_⟩|y
   ·exact cT.AJ y.rd hs
   ·exact cT.AJ y hs
   ·exact y (acK iH.1 iH.2 hs)
  ·simpa only[nE,jp,dg,pC,wA]using hm
 ·rw[lI];have hr:Rest (Ba (some p)) t K ic st:=h.out.2.2.1;rw[lI]at hr;refine hr.app (λidx a ha hx=> .inr (hx.app (by obtain⟨op,ay,_⟩:=UT ha;exact TH ay) λm _ _ hm=> .inl (by rw[dg];exact hm))) (λidx a _ ⟨op,ay,ye,_⟩ _=> .inr (.inr ⟨i,?_,hi,.inl ?_⟩))
  ·obtain⟨e,_,rfl⟩:=TL ay;simp[Wz,ye]
  ·rw[bB];rfl
 ·refine h.M_ (by simp) s.size ajQ (λx=>by cases x) (.inl (by rw[hK];rfl)) ?_;have hx:=h.phase.2.2.2.2.2.2.2.2.2;split
  ·rename_i aH;rw[if_pos aH]at hx;obtain⟨_,_,_,s',pQ,hm⟩:=hx;exact⟨s',pQ,hm.keep ma fx hWh λr6=>acj hlt hk.running r6⟩
  ·exact⟨lI,rfl,by rw[hK];rfl⟩
 ·rw[hK];refine .inr ⟨by simp[GS.di,cp],.inl mG⟩
 ·intro g c Ks;have ho:zo w' c:=⟨n,by rw[<- Ks p rfl,fx];exact g_⟩;exact⟨MK hi,λjx _=> .inr ⟨M7 hi jx ho,ho⟩⟩
end
def og (V:View)(I':cE)(O':Bz)(r:nA):View:=
 {V with ab:=λb o=>match V.ab b o with|some x=>some x|none=>I' b o,own:=λb=>match V.own b with|some x=>some x|none=>O' b,role:=r}
def mm (B:Nat->Bool)(U:View):Bz:=λb=>if B b then U.own b else none
def mi (B:Nat->Bool)(U:View)(r:nA):View:={U with own:=λb=>if B b then none else U.own b,role:=r}
section
variable {P:SJ}{n0:Nat}{W0:To}{V:View}{gs gs':Array SG}{w w':To}{sl:Option (Nat×Nat)}{t:Un}{K:Nat->GS}{Im:cE}{ic:Nat}{p:Phase}{st:Option eG}
theorem abG{k:GS}{d:Nat}{x:SG}(h:k.is P p.c p.Wg Im p.Ss d x)(r:Nat):offersAt x r false=[]:=by
 rcases GS.runs h with hr|⟨hf,_⟩|⟨j,h',V,V',g0,v,z,rfl⟩|⟨_,hb,ho⟩
 ·exact UU (by rw[hr];simp) r false
 ·exact UU (by rw[hf];simp) r false
 ·obtain⟨_,_,rfl,_⟩:=h;exact offersAt_parked_send' _ _ _ _ _ _
 ·unfold offersAt;simp[hb,ho]
theorem ana{g:SG}(h:kR gs g){x:SG}(hx:gs[0]?=some x)(r:Nat)(s:Bool):offersAt x r s=[]:=by
 obtain⟨g0,h0,h1,_⟩:=h;rw[h0]at hx;cases hx;exact UU (by rw[h1];simp) r s
theorem Inv.asf(h:Inv P n0 W0 V gs w t K Im ic (some p) st){g:SG}(hm:kR gs g){i j:Nat}{gi:SG}{hh h':Ht}{Vi V₁:View}{sp:Spec}{S:List Spec}{v z:SQ}{B:Nat->Bool}(hi:0<i)(aL:gs[i]?=some gi)
  (hK:K i=.work j hh Vi) (hg:ej Vi V₁) (hr:V₁.role=.work p.c p.Wg (sp::S)) (hd:V₁.deaf=0) (aR:stepG P false gi w=.comm gi #[scase p.c v z] true .send w #[])
  (yp:sp v V₁.ab (mm B V₁)) (hk:lV P h' (mi B V₁ (.work p.c p.Wg S)) (T6 gi undef)):gU P n0 W0 V gs w sl t K Im ic (some p) st i:=by
 have hlt:i<gs.size:=(SU.1 aL).1;have du:=h.is i gi hi aL;simp only[hK,GS.is]at du;obtain⟨bC,_,S',hS,jz⟩:=du;have fX:(K i).cnt=1:=by rw[hK];rfl
 obtain⟨⟨n,g_⟩,lI⟩:=h.counted hi hlt fX;have eQ:(i==0)=false:=by simp;omega
 have er:nA.work p.c p.Wg S'=.work p.c p.Wg (sp::S):=by rw[<- jz,<- hg.role,hr]
 cases er;let k':GS:=.ou j h' V₁ (mi B V₁ (.work p.c p.Wg S)) gi v z;have hw:=crowd_waits (P:=P) (sl:=sl) (i:=i) aL (by rw[eQ];exact aR) (λcc jv=>by
  simp only[TJ,SL,S0,or_false]at jv;subst jv;refine ways_send_none g_ (by simp) (partners_nil λm x hx=> ?_);rcases X7 gs i m x hx with⟨_,rfl⟩|⟨_,jU⟩
  ·exact Zl _ _
  ·rcases UH m with rfl|jg
   ·exact ana hm jU _ _
   ·exact abG (h.is m x jg jU) _)
 have mK:bJ V Im K i=Vi:=by simp[bJ,hK,GS.view];omega
 have cT:jI p Vi:=by have:=h.blind hi;rw[hK]at this;exact this
 have dg:∀m,((upd K i k') m).idx=(K m).idx:=λm=>by
  by_cases hm:m=i
  ·subst hm;rw[bB,hK];rfl
  ·rw[ba _ _ hm]
 have ma:∀m,((upd K i k') m).shape=(K m).shape:=λm=>by
  by_cases hm:m=i
  ·subst hm;rw[bB,hK];rfl
  ·rw[ba _ _ hm]
 have pC:∀m,((upd K i k') m).cnt=(K m).cnt:=λm=>by rw[<- GS.nL,ma,GS.nL]
 have wA:∀m,((upd K i k') m).late=(K m).late:=λm=>by rw[<- GS.mO,ma,GS.mO]
 have e0:t++Ta i gi.frame.fn gi.frame.place #[]=t:=by simp[Ta]
 have aY:(gs.setIfInBounds i (parked gi #[scase p.c v z] .send)).size=gs.size:=by simp
 refine⟨_,w,_,upd K i k',st,hw,aY,?_,λg' c _=>⟨λ⟨g0,a,b⟩=>⟨g0,by rw[SW (by omega)];exact a,b⟩,λ⟨g0,z',a,b⟩ ho=> .inr ⟨⟨g0,z',by rw[SW (by omega)];exact a,b⟩,ho⟩⟩,λg' c ⟨g1,z',a,_⟩ _=>(by obtain⟨g0,h0,h1,_⟩:=hm;rw[a]at h0;cases h0;cases h1),
  .inl ⟨i,hlt,?_,λm hm=>by show (upd K i k' m).di=(K m).di;rw[ba _ _ hm]⟩⟩
 ·rw[e0];refine Inv.mk' (by rw[aY];exact h.pos) (by rw[ba _ _ (by omega)];exact h.k0) h.d0 (λm x hm hx=> ?_) ?_ ?_ ?_
  ·by_cases da:m=i
   ·subst da;rw[S_ hlt]at hx;cases hx;rw[bB];exact⟨by rw[bC,<- hg.deaf,hd],hd,rfl,hk,sp,S,B,hS,hr,yp,rfl⟩
   ·rw[SW (Ne.symm da)]at hx;rw[ba _ _ da];exact h.is m x hm hx
  ·rw[aY,N8 V Im K hi];exact(Core.ghost (V':=V₁) h.core hlt (by rw[mK];exact hg)).BO λm hm=>by simpa only[nE,jp,dg,pC,wA]using hm
  ·have hr:Rest (Ba (some p)) t K ic st:=h.out.2.2.1;rw[lI]at hr⊢;have:=hr.app (u:=#[]) (K':=upd K i k') (s':=.early) (λidx a ha hx=> .inr (hx.app (by obtain⟨op,ay,_⟩:=UT ha;exact TH ay) λm _ _ hm=> .inl (by rw[dg];exact hm))) (λidx a _ ⟨op,ay,_⟩ _=>by simp at ay);simpa using this
  ·refine h.M_ aY (SR _) (cT.ghost hg) (λx=>by cases x) (.inl (by rw[hK];rfl)) ?_;have hx:=h.phase.2.2.2.2.2.2.2.2.2;split
   ·rename_i aH;rw[if_pos aH]at hx;obtain⟨_,gM,_,s',pQ,gA⟩:=hx;refine⟨s',pQ,?_⟩;have:=gA.keep (w':=w) (gs':=gs.setIfInBounds i (parked gi #[scase p.c v z] .send)) (u:=#[]) ma rfl rfl λr6 x hx=>by
     by_cases gw:ic=i
     ·subst gw;exfalso;unfold Mode at gA;have aG:∀s:GS,(K ic).shape=s->s=.work j .z noView:=λs e=>(by rw[<- e,hK];rfl);rcases gA with h|h|h|h|h|h|h
      ·rcases h.2.2.2.2.2 with⟨_,e,_⟩|⟨_,e,_⟩<;>cases aG _ e
      ·rcases h.2.2.2.2.2.2 with e|e<;>cases aG _ e
      ·rcases h.2.2.2.2.1 with e|e<;>cases aG _ e
      ·rcases h.2.2.2.2.2.2 with e|e<;>cases aG _ e
      ·rcases h.2.2.2.2.2 with e|e<;>cases aG _ e
      ·rcases h.2.2.2.2 with e|e<;>cases aG _ e
      ·cases aG _ h.2.2.2
     ·rw[SW (Ne.symm gw)]at hx;exact r6 x hx
    simpa using this
   ·exact⟨lI,rfl,by rw[hK];rfl⟩
 ·show rq (upd K i k' i).di (K i).di;rw[hK];refine .inl ?_;simp only[bB,k',GS.di,hr,jz];omega
theorem Mode.ama{c Wg N:Nat}{u:Un}{K':Nat->GS}{s:eG}(h:Mode P c Wg N w gs t K ic s)(fX:1<=sumTo N λi=>(K i).cnt)(hs:∀j,(K' j).shape=(K j).shape)(ho:∃n,w'.heap[c]?=some (.chan 0 #[] false n n false)) (hW:w'.heap[Wg]?=w.heap[Wg]?):Mode P c Wg N w' gs' (t++u) K' ic s:=by
 have e1:sumTo N (λi=>(K' i).cnt)=sumTo N λi=>(K i).cnt:=Vl λi _=>by rw[<- GS.nL,hs i,GS.nL]
 have e2:sumTo N (λi=>(K' i).late)=sumTo N λi=>(K i).late:=Vl λi _=>by rw[<- GS.mO,hs i,GS.mO]
 have e3:∀st sm,WgAt P Wg w' st sm=WgAt P Wg w st sm:=λst sm=>by unfold WgAt;rw[hW]
 unfold Mode at h⊢;simp only[e1,e2,e3,hs];rcases h with h|h|h|h|h|h|h
 ·exact .inl ⟨ho,h.2⟩
 ·exact .inr (.inl ⟨ho,h.2⟩)
 ·have:=h.2.2.2.1;omega
 ·have:=h.2.2.2.1;omega
 ·have:=h.2.2.2.1;omega
 ·have:=h.2.2.2.1;omega
 ·have:=h.2.2.1;omega
theorem Inv.met(h:Inv P n0 W0 V gs w t K Im ic (some p) st)(aH:p.recv=true)(gY:V.deaf=0){i j:Nat}{h':Ht}{V₁:View}{gi:SG}{sp:Spec}{S:List Spec}{B:Nat->Bool}(hi:0<i)(hlt:i<gs.size)
  (yf:(K i).idx=some j) (hg:ej ((K i).view Im) V₁) (hr:V₁.role=.work p.c p.Wg (sp::S)) (hd:V₁.deaf=0) (oP:US t i=0) (hS:p.Ss[j]?=some (sp::S))
  (hk:lV P h' (mi B V₁ (.work p.c p.Wg S)) (T6 gi undef)) (aY:gs'.size=gs.size) (aL:gs'[i]?=some (T6 gi undef)) (hgo:∀m,m≠i->0<m->gs'[m]?=gs[m]?)
  {u:Un} {x0 x1 x2 x3:Wc} (hu:u=#[x0,x1,x2,x3]) {s:Nat} (h0:x0.g=i/\x0.act=.send p.c s) (h1:x1.g=0/\x1.act=.recv p.c s 0) (h2:x2.g=i/\x2.act=.sendDone p.c s) (h3:x3.g=0/\x3.act=.recvDone p.c s)
  (bU:w'.heap.size=w.heap.size) (f_:∀b,b≠p.c->w'.heap[b]?=w.heap[b]?) (wI:∃n,w'.heap[p.c]?=some (.chan 0 #[] false n n false)) (Gn:w'.tape=w.tape) (hw5:w'.os=w.os) (hw6:w'.output=w.output):
  (∀b,V.own b≠none->mm B V₁ b=none)/\(∀b o,V.own b≠none->V₁.ab b o≠none->V.ab b o≠none)/\
  Inv P n0 W0 (og V V₁.ab (mm B V₁) (.recv p.c p.Wg (p.Ss.set j S))) gs' w' (t++u) (upd K i (.work j h' (mi B V₁ (.work p.c p.Wg S)))) Im ic (some {p with Ss:=p.Ss.set j S}) st:=by
 obtain⟨du,hc,l_,hO⟩:=h.out;obtain⟨a1,a2,a3,a4,a5,a6,a7,a8,a9,b8⟩:=hO;rw[if_pos aH]at b8;obtain⟨⟨c1,c2,c3,c4⟩,c5,c6,s',c7,c8⟩:=b8;have Cu:jI p V:=⟨c1,c2,c3,c4⟩;have wh:=(h.blind hi).ghost hg;have mK:bJ V Im K i=(K i).view Im:=by simp[bJ];omega
 have db:bJ V Im K 0=V:=by simp[bJ]
 have dA:Core (upd (bJ V Im K) i V₁) gs.size w t (sB (some p)) (nE (some p) gs.size ic K) ic n0 W0:=hc.ghost hlt (by rw[mK];exact hg);have dN:Sat V₁ w:=by have:=dA.sat i hlt;rwa [bB]at this
 have cH:Sat V w:=by have:=dA.sat 0 h.pos;rwa [ba _ _ (by omega),db]at this
 have EU:j4 V V₁:=by have:=dA.dV 0 i h.pos hlt (by omega);rwa [ba _ _ (show 0≠i by omega),bB,db]at this
 have PS:j4 V₁ V:=by have:=dA.dV i 0 hlt h.pos (by omega);rwa [bB,ba _ _ (show 0≠i by omega),db]at this
 have aki:∀b,V.own b≠none->mm B V₁ b=none:=λb hb=>by
  unfold mm;split
  ·exact(EU b hb).1
  ·rfl
 refine⟨aki,λb o hb=>(EU b hb).2 o,?_⟩;have jS:∀op∈u,op.act.touch?=none/\still op.act/\(op.g=0\/op.g=i)/\op.act.low w.heap.size/\∀a,op.act≠ .mark (.release a):=by
  intro op ay;rw[hu]at ay;simp only[TJ,SL,S0,or_false]at ay;rcases ay with rfl|rfl|rfl|rfl
  ·rw[h0.2,h0.1];exact⟨rfl,⟨by simp,by simp⟩,.inr rfl,a4,by simp⟩
  ·rw[h1.2,h1.1];exact⟨rfl,⟨by simp,by simp⟩,.inl rfl,a4,by simp⟩
  ·rw[h2.2,h2.1];exact⟨rfl,⟨by simp,by simp⟩,.inr rfl,a4,by simp⟩
  ·rw[h3.2,h3.1];exact⟨rfl,⟨by simp,by simp⟩,.inl rfl,a4,by simp⟩
 have n_:∀op∈u,still op.act:=λop ay=>(jS op ay).2.1;have uN:∀m,US (t++u) m=US t m:=λm=>Deaf_still n_;have d00:US t 0=0:=by rw[h.d0,gY]
 have bF:∀idx,Wm t i idx->Wm (t++u) 0 idx:=λidx hx=>ani hu h0 (jS x1 (by rw[hu];simp)).2.1 (jS x2 (by rw[hu];simp)).2.1 h3 oP d00 hx;let k':GS:=.work j h' (mi B V₁ (.work p.c p.Wg S));let V':View:=og V V₁.ab (mm B V₁) (.recv p.c p.Wg (p.Ss.set j S));have dg:∀m,((upd K i k') m).idx=(K m).idx:=λm=>by
  by_cases hm:m=i
  ·subst hm;rw[bB,yf];rfl
  ·rw[ba _ _ hm]
 have ee:(K i).shape=.work j .z noView:=by
  cases lB:K i<;>rw[lB]at yf<;>simp[GS.idx]at yf
  ·subst yf;rfl
  ·subst yf;rfl
 have ma:∀m,((upd K i k') m).shape=(K m).shape:=λm=>by
  by_cases hm:m=i
  ·subst hm;rw[bB,ee];rfl
  ·rw[ba _ _ hm]
 have pC:∀m,((upd K i k') m).cnt=(K m).cnt:=λm=>by rw[<- GS.nL,ma,GS.nL]
 have wA:∀m,((upd K i k') m).late=(K m).late:=λm=>by rw[<- GS.mO,ma,GS.mO]
 have fX:(K i).cnt=1:=by rw[<- GS.nL,ee];rfl
 have lI:=(h.counted hi hlt fX).2;have sH:bJ V' Im (upd K i k') 0=V':=by simp[bJ]
 have xb:bJ V' Im (upd K i k') i=mi B V₁ (.work p.c p.Wg S):=by simp[bJ,bB,k',GS.view];omega
 have xc:∀m,m≠0->m≠i->bJ V' Im (upd K i k') m=upd (bJ V Im K) i V₁ m:=λm h1 h2=>by simp[bJ,ba _ _ h2,h1]
 have DI:upd (bJ V Im K) i V₁ 0=V:=by rw[ba _ _ (by omega),db]
 have wU:upd (bJ V Im K) i V₁ i=V₁:=bB _ _ _;have kU:∀{U:View},jI p U->Sat U w->Sat U w':=λ{U} hb hs=>⟨λb o v e=>by
   have aG:b≠p.c:=λx=>(by rw[x,hb.2.1 o]at e;cases e);have:=hs.ab b o v e;simp only[Uy,f_ b aG]at this⊢;exact this,λb x e=>by
   have aG:b≠p.c:=λy=>(by rw[y,hb.1]at e;cases e);rw[f_ b aG];exact hs.own b x e⟩
 have alt:Sat V' w:=⟨λb o v e=>by
   simp only[V',og]at e;split at e
   ·rename_i x hx;cases e;exact cH.ab b o _ hx
   ·exact dN.ab b o v e,λb x e=>by
   simp only[V',og]at e;split at e
   ·rename_i y hy;cases e;exact cH.own b _ hy
   ·unfold mm at e;split at e
    ·exact dN.own b x e
    ·cases e⟩
 have Cv:jI p V':=⟨by simp[V',og,c1,mm,wh.1],λo=>by simp[V',og,c2,wh.2.1],by simp[V',og,c3,mm,wh.2.2.1],λo=>by simp[V',og,c4,wh.2.2.2]⟩;have hsK:Sat (mi B V₁ (.work p.c p.Wg S)) w:=⟨dN.ab,λb x e=>by
   simp only[mi]at e;split at e
   ·cases e
   ·exact dN.own b x e⟩
 have Ct:jI p (mi B V₁ (.work p.c p.Wg S)):=⟨by simp[mi,wh.1],wh.2.1,by simp[mi,wh.2.2.1],wh.2.2.2⟩;have AR:∀b,V'.own b≠none->V.own b≠none\/(B b=true/\V₁.own b≠none):=λb hb=>by
  simp only[V',og]at hb;split at hb
  ·rename_i y hy;exact .inl (by rw[hy];simp)
  ·unfold mm at hb;split at hb
   ·rename_i hB;exact .inr ⟨hB,hb⟩
   ·exact absurd rfl hb
 have vc:∀b o,V'.ab b o≠none<->(V.ab b o≠none\/V₁.ab b o≠none):=λb o=>by
  simp only[V',og];cases e:V.ab b o with
  |some x=>simp
  |none=>simp
 have AT:∀b,(mi B V₁ (.work p.c p.Wg S)).own b≠none->B b=false/\V₁.own b≠none:=λb hb=>by
  simp only[mi]at hb;split at hb
  ·exact absurd rfl hb
  ·rename_i hB;exact⟨by simpa using hB,hb⟩
 have ya:Core (bJ V' Im (upd K i k')) gs.size w' (t++u) (sB (some p)) (nE (some p) gs.size ic K) ic n0 W0:=by
  refine⟨λm hm=> ?_,λa b ha hb fw=> ?_,?_,Gn.trans hc.tape,hw5.trans hc.os,hw6.trans hc.out,λb hb=>(f_ b (by omega)).trans (hc.old b hb),λm hm b hb=> ?_,by rw[bU];exact hc.n0⟩
  ·by_cases jg:m=0
   ·subst jg;rw[sH];exact kU Cv alt
   ·by_cases da:m=i
    ·subst da;rw[xb];exact kU Ct hsK
    ·rw[xc m jg da,ba _ _ da];have:=hc.sat m hm;refine kU ?_ this;have e:bJ V Im K m=(K m).view Im:=(by simp[bJ,jg]);rw[e];exact h.blind (by omega)
  ·
   have dm:∀m,m<gs.size->m≠0->m≠i->j4 (upd (bJ V Im K) i V₁ m) V/\j4 V (upd (bJ V Im K) i V₁ m)/\j4 (upd (bJ V Im K) i V₁ m) V₁/\j4 V₁ (upd (bJ V Im K) i V₁ m):=λm hm h1 h2=>
    ⟨by have:=dA.dV m 0 hm h.pos h1;rwa [DI]at this,by have:=dA.dV 0 m h.pos hm (Ne.symm h1);rwa [DI]at this,by have:=dA.dV m i hm hlt h2;rwa [wU]at this,by have:=dA.dV i m hlt hm (Ne.symm h2);rwa [wU]at this⟩
   by_cases zY:a=0
   ·subst zY;by_cases jb:b=i
    ·subst jb;rw[sH,xb];intro q hq;rcases AR q hq with x|⟨hB,x⟩
     ·refine⟨?_,λo ho=>(vc q o).2 (.inl ((EU q x).2 o ho))⟩;simp only[mi];split
      ·rfl
      ·exact(EU q x).1
     ·refine⟨by simp only[mi,hB,if_true],λo ho=>(vc q o).2 (.inr ho)⟩
    ·have tx:b≠0:=Ne.symm fw;rw[sH,xc b tx jb];obtain⟨_,e2,_,e4⟩:=dm b hb tx jb;intro q hq;rcases AR q hq with x|⟨_,x⟩
     ·exact⟨(e2 q x).1,λo ho=>(vc q o).2 (.inl ((e2 q x).2 o ho))⟩
     ·exact⟨(e4 q x).1,λo ho=>(vc q o).2 (.inr ((e4 q x).2 o ho))⟩
   ·by_cases nT:a=i
    ·subst nT;by_cases tx:b=0
     ·subst tx;rw[sH,xb];intro q hq;obtain⟨hB,x⟩:=AT q hq;refine⟨?_,λo ho=> ?_⟩
      ·simp only[V',og,(PS q x).1,mm,hB];rfl
      ·rcases(vc q o).1 ho with y|y
       ·exact(PS q x).2 o y
       ·exact y
     ·rw[xb,xc b tx (Ne.symm fw)];obtain⟨_,_,_,e4⟩:=dm b hb tx (Ne.symm fw);intro q hq;exact e4 q (AT q hq).2
    ·rw[xc a zY nT];obtain⟨e1,e2,e3,e4⟩:=dm a ha zY nT;by_cases tx:b=0
     ·subst tx;rw[sH];intro q hq;refine⟨?_,λo ho=>((vc q o).1 ho).elim ((e1 q hq).2 o) ((e3 q hq).2 o)⟩;simp only[V',og,(e1 q hq).1,mm,(e3 q hq).1,ite_self]
     ·by_cases jb:b=i
      ·subst jb;rw[xb];intro q hq;refine⟨?_,(e3 q hq).2⟩;simp only[mi,(e3 q hq).1,ite_self]
      ·rw[xc b tx jb];exact dA.dV a b ha hb fw
  ·rw[bU];refine dA.ti.mute (λop ay=>(jS op ay).1) (λop ay=>(jS op ay).2.2.2.1) (λop ay=>((jS op ay).2.2.1).elim (λx=>by rw[x];exact h.pos) (λx=>by rw[x];exact hlt)) (SR _) (λop ay=>(jS op ay).2.2.2.2) (λm hm l hl idx a ha gZ sh=> ?_) (λm hm l hl idx a ha gZ=> ?_) (λidx a ha ee=>⟨λhp m hm=>((dA.ti.sp idx a ha ee).1 hp m hm).app u,λhp=>((dA.ti.sp idx a ha ee).2 hp).app u⟩)
   ·obtain⟨_,c_,nX⟩:=hl;by_cases jg:m=0
    ·subst jg;rw[sH]at c_;have:ig V l\/ig V₁ l:=by
      cases l with
      |cell a'=>
       rcases c_ with x|x
       ·exact(AR _ x).imp .inl (λy=> .inl y.2)
       ·exact((vc _ _).1 x).imp .inr .inr
      |obj r=>exact(AR _ c_).imp id (λy=>y.2)
      |_=>exact c_.elim
     rcases this with x|x
     ·exact(dA.ti.kr 0 h.pos l ⟨h.pos,by rw[DI];exact x,nX⟩ idx a ha gZ sh).app u
     ·exact bF idx (dA.ti.kr i hlt l ⟨hlt,by rw[wU];exact x,nX⟩ idx a ha gZ sh)
    ·by_cases da:m=i
     ·subst da;rw[xb]at c_;have:ig V₁ l:=by
       cases l with
       |cell a'=>exact c_.imp (λx=>(AT _ x).2) id
       |obj r=>exact(AT _ c_).2
       |_=>exact c_.elim
      exact(dA.ti.kr m hm l ⟨hm,by rw[wU];exact this,nX⟩ idx a ha gZ sh).app u
     ·rw[xc m jg da]at c_;exact(dA.ti.kr m hm l ⟨hm,c_,nX⟩ idx a ha gZ sh).app u
   ·obtain⟨_,c_,nX⟩:=hl;by_cases jg:m=0
    ·subst jg;rw[sH]at c_;have:j5 V l\/j5 V₁ l:=by
      cases l with
      |cell a'=>
       have gv:V.ab a'.block a'.off=none:=by
        cases e:V.ab a'.block a'.off with
        |none=>rfl
        |some x=>exact absurd c_.2 ((vc _ _).2 (.inl (by rw[e];simp)))
       have uR:V₁.ab a'.block a'.off=none:=by
        cases e:V₁.ab a'.block a'.off with
        |none=>rfl
        |some x=>exact absurd c_.2 ((vc _ _).2 (.inr (by rw[e];simp)))
       exact(AR _ c_.1).imp (λx=>⟨x,gv⟩) (λx=>⟨x.2,uR⟩)
      |obj r=>exact(AR _ c_).imp id (λy=>y.2)
      |_=>exact c_.elim
     rcases this with x|x
     ·exact(dA.ti.kw 0 h.pos l ⟨h.pos,by rw[DI];exact x,nX⟩ idx a ha gZ).app u
     ·exact bF idx (dA.ti.kw i hlt l ⟨hlt,by rw[wU];exact x,nX⟩ idx a ha gZ)
    ·by_cases da:m=i
     ·subst da;rw[xb]at c_;have:j5 V₁ l:=by
       cases l with
       |cell a'=>exact⟨(AT _ c_.1).2,c_.2⟩
       |obj r=>exact(AT _ c_).2
       |_=>exact c_.elim
      exact(dA.ti.kw m hm l ⟨hm,by rw[wU];exact this,nX⟩ idx a ha gZ).app u
     ·rw[xc m jg da]at c_;exact(dA.ti.kw m hm l ⟨hm,c_,nX⟩ idx a ha gZ).app u
  ·by_cases jg:m=0
   ·subst jg;rw[sH];have e1:=dA.jD 0 h.pos b hb;have e2:=dA.jD i hlt b hb;rw[DI]at e1;rw[wU]at e2;simp[V',og,e1,mm,e2]
   ·by_cases da:m=i
    ·subst da;rw[xb];have e2:=dA.jD m hm b hb;rw[wU]at e2;simp[mi,e2]
    ·rw[xc m jg da];exact dA.jD m hm b hb
 refine Inv.mk' (by rw[aY];exact h.pos) (by rw[ba _ _ (by omega)];exact h.k0) (by rw[uN];exact h.d0) (λm x hm hx=> ?_) ?_ ?_ ?_
 ·show (upd K i k' m).is P p.c p.Wg Im (p.Ss.set j S) (US (t++u) m) x;rw[uN];by_cases da:m=i
  ·subst da;rw[aL]at hx;cases hx;rw[bB];have fE:j<p.Ss.length:=(SM.1 hS).1;exact⟨by rw[oP];exact hd.symm,hk,S,by simp[W5 fE],rfl⟩
  ·rw[hgo m da hm]at hx;rw[ba _ _ da];have AD:=du m x hm hx;have CP:m<gs.size:=(SU.1 hx).1;have aG:(K m).idx≠some j:=λe=>da (a8 m i j hm CP hi hlt e yf);cases J5:K m with
   |work j2 h2 V2=>
    rw[J5]at AD aG;obtain⟨b1,b2,S2,b3,b4⟩:=AD;exact⟨b1,b2,S2,by rw[T7 (λe=>aG (by rw[e];rfl))];exact b3,b4⟩
   |ou j2 h2 V2 V3 g2 v2 z2=>
    rw[J5]at AD aG;obtain⟨b1,b2,b3,b4,sp2,S2,B2,b5,b6⟩:=AD;exact⟨b1,b2,b3,b4,sp2,S2,B2,by rw[T7 (λe=>aG (by rw[e];rfl))];exact b5,b6⟩
   |_=>rw[J5]at AD;exact AD
 ·rw[aY];refine ya.BO λm hm=> ?_;have gA:jp p gs.size ic (upd K i k') m:=hm;show jp p gs.size ic K m;unfold jp at gA⊢;rw[dg,pC,wA]at gA;exact gA
 ·show Rest p.Wg (t++u) (upd K i k') ic st;have yn:Rest p.Wg t K ic st:=l_;rw[lI]at yn⊢;exact yn.app (λidx a ha hx=> .inr (hx.app (by obtain⟨op,ay,_⟩:=UT ha;exact TH ay) λm _ _ hm=> .inl (by rw[dg];exact hm))) (λidx a _ ⟨op,ay,_,hx⟩ _=>by rw[(jS op ay).1]at hx;cases hx)
 ·refine⟨a1,a2,a3,by rw[bU];exact a4,by rw[bU];exact a5,by simpa using a6,λm hm=> ?_,λm m' q b1 b2 b3 b4 b5 b6=>a8 m m' q b1 (aY▸b2) b3 (aY▸b4) (by rw[<- dg];exact b5) (by rw[<- dg];exact b6),λq S2 b1 b2=> ?_,?_⟩
  ·by_cases da:m=i
   ·subst da;rw[bB];exact⟨Ct.1,Ct.2.1,Ct.2.2.1,Ct.2.2.2,λx=>by cases x⟩
   ·rw[ba _ _ da];exact a7 m hm
  ·rw[aY];by_cases hq:q=j
   ·subst hq;exact⟨i,hi,hlt,by rw[dg];exact yf⟩
   ·have IF:p.Ss[q]?=some S2:=by
     have:=b1;rwa [show ({p with Ss:=p.Ss.set j S}:Phase).Ss=p.Ss.set j S from rfl,T7 (Ne.symm hq)]at this
    obtain⟨m,e1,e2,e3⟩:=a9 q S2 IF b2;exact⟨m,e1,e2,by rw[dg];exact e3⟩
  ·show if p.recv=true then _ else _;rw[if_pos aH];refine⟨⟨Cv.1,Cv.2.1,Cv.2.2.1,Cv.2.2.2⟩,c5,by rw[aY];exact c6,s',c7,?_⟩;have hle:(K i).cnt<=sumTo gs.size λi=>(K i).cnt:=WB (f:=λi=>(K i).cnt) hlt;rw[aY];exact c8.ama (by omega) ma wI (f_ _ (Ne.symm a3))
end
section
variable {P:SJ}{n0:Nat}{W0:To}{V:View}{gs gs':Array SG}{w w':To}{sl:Option (Nat×Nat)}{t:Un}{K:Nat->GS}{Im:cE}{ic:Nat}{p:Phase}{st st':Option eG}
theorem Inv.ue(h:Inv P n0 W0 V gs w t K Im ic (some p) st)(aH:p.recv=true){i:Nat}{gi bH:SG}{es:Array Ur}{k':GS}{s':eG}(hi:0<i)(aL:gs[i]?=some gi)(aR:stepG P false gi w=.go bH w' es)
  (hk:k'.is P p.c p.Wg Im p.Ss (deafBehind (US t i) es) bH) (qH:mZ (k'.view Im) ((K i).view Im))
  (x9:k'.nK=true->i=ic) (dg:k'.idx=none) (ye:∀j,(K i).idx=some j->p.Ss[j]?=some []/\∃r,Rel p.Wg (t++Ta i gi.frame.fn gi.frame.place es) i r/\t.size<=r)
  (kE:i=ic\/(K i).idx.isSome=true\/(K i).cnt=1\/(K i).late=1)
  (cC:∀e∈es,∀x,(Tq e).touch?=some x->(ry p.c p.Wg x.loc/\x.kind=.atomic)\/(ry p.c p.Wg x.loc/\x.kind=.said/\i=ic)\/(¬ry p.c p.Wg x.loc/\ig ((K i).view Im) x.loc/\x.write=false))
  (iH:∀e∈es,(Tq e).low w.heap.size) (rX:∀e∈es,∀a,Tq e≠ .mark (.release a))
  (aY:w'.heap.size=w.heap.size) (jR:∀b,b≠p.c->b≠p.Wg->w'.heap[b]?=w.heap[b]?) (ht:w'.tape=w.tape) (ho:w'.os=w.os) (hu:w'.output=w.output)
  (yj:Mode P p.c p.Wg gs.size w' ((gs.map (woken P gi bH w')).setIfInBounds i bH) (t++Ta i gi.frame.fn gi.frame.place es) (upd K i k') ic s')
  (g_:(∃n,w'.heap[p.c]?=some (.chan 0 #[] false n n false))\/((∀j,0<j->j<gs.size->j≠i->(K j).idx=none)/\∀g,oA gs g p.c->kR ((gs.map (woken P gi bH w')).setIfInBounds i bH) g))
  (l_:Rest p.Wg (t++Ta i gi.frame.fn gi.frame.place es) (upd K i k') ic (some s'))
  (jS:Bx gs.size ((λj=>(upd K i k' j).di),flag ((gs.map (woken P gi bH w')).setIfInBounds i bH) ic) ((λj=>(K j).di),flag gs ic)):gU P n0 W0 V gs w sl t K Im ic (some p) st i:=by
 have hlt:i<gs.size:=(SU.1 aL).1;obtain⟨_,hc,_,hp⟩:=h.out;obtain⟨a1,a2,a3,a4,a5,a6,a7,a8,a9,b8⟩:=hp;rw[if_pos aH]at b8;obtain⟨c1,c2,c3,_⟩:=b8;have qR:bJ V Im K i=(K i).view Im:=by simp[bJ];omega
 have Cu:∀j,j<gs.size->jI p (bJ V Im K j):=λj _=>by
  by_cases hj:j=0
  ·subst hj;rw[show bJ V Im K 0=V by simp[bJ]];exact⟨c1.1,c1.2.1,c1.2.2.1,c1.2.2.2⟩
  ·simp only[bJ,hj,if_false];exact h.blind (by omega)
 have Rn:nE (some p) gs.size ic K i:=by
  show jp p gs.size ic K i;unfold jp;rw[if_pos aH];exact⟨hi,hlt,by rcases kE with x|x|x|x;exact .inr (.inl x);exact .inl x;exact .inr (.inr (.inl x));exact .inr (.inr (.inr x))⟩
 refine h.abk (st':=some s') hi aL aR hk (λhb=> ?_) (λq hq=>by cases hq;exact g_.imp id And.left) ?_ l_ ?_ jS ?_
 ·rcases GS.runs hk with x|⟨x,_⟩|⟨_,_,_,_,_,_,_,e⟩|⟨_,_,x⟩
  ·rw[x]at hb;cases hb
  ·rw[x]at hb;cases hb
  ·rw[e]at dg;cases dg
  ·exact x
 ·rw[N8 V Im K hi];have ee:=hc.ue hlt (es:=es) (w':=w') (λe he x hx=>by
    rcases cC e he x hx with⟨x1,x2⟩|⟨x1,x2,x3⟩|⟨x1,x2,x3⟩
    ·exact .inl ⟨x1,x2,Rn⟩
    ·exact .inr (.inl ⟨x1,x2,x3,Rn⟩)
    ·exact .inr (.inr ⟨x1,.inr (.inl ⟨⟨hlt,by rw[qR];exact x2,x1⟩,x3⟩)⟩)) iH rX (λb=>b=p.c\/b=p.Wg)
   (λb hb=>by
    rcases hb with rfl|rfl
    ·exact⟨a1,λj hj=>⟨(Cu j hj).1,(Cu j hj).2.1⟩⟩
    ·exact⟨a2,λj hj=>⟨(Cu j hj).2.2.1,(Cu j hj).2.2.2⟩⟩) aY (λb hb=>jR b (λx=>hb (.inl x)) (λx=>hb (.inr x))) ht ho hu gi.frame.fn gi.frame.place
  refine(ee.less (V':=k'.view Im) hlt (by rw[qR];exact qH)).BO λm hm=> ?_;have gA:jp p gs.size ic (upd K i k') m:=hm;show jp p gs.size ic K m;unfold jp at gA⊢;rw[if_pos aH]at gA⊢;by_cases da:m=i
  ·subst da;exact⟨hi,hlt,by rcases kE with x|x|x|x;exact .inr (.inl x);exact .inl x;exact .inr (.inr (.inl x));exact .inr (.inr (.inr x))⟩
  ·rw[ba _ _ da]at gA;exact gA
 ·refine h.M_ (by simp) (by omega) ?_ x9 (.inr ⟨dg,λj hj=>(ye j hj).1⟩) ?_
  ·have hb:=h.blind hi;exact⟨(qH.1 _).elim id (λx=>x.trans hb.1),λo=>(qH.2.1 _ o).elim id (λx=>x.trans (hb.2.1 o)),(qH.1 _).elim id (λx=>x.trans hb.2.2.1),λo=>(qH.2.1 _ o).elim id (λx=>x.trans (hb.2.2.2 o))⟩
  ·rw[if_pos aH];exact⟨s',rfl,yj⟩
 ·intro g c Ks;refine⟨MK hi,λjx _=> ?_⟩;rw[<- Ks p rfl]at jx⊢;rcases g_ with x|⟨_,x⟩
  ·exact .inr ⟨M7 hi jx x,x⟩
  ·exact .inl (x g jx)
theorem Mode.al9{c Wg N:Nat}{u:Un}{K':Nat->GS}{s:eG}(h:Mode P c Wg N w gs t K ic s)(e1:sumTo N (λi=>(K' i).cnt)=sumTo N λi=>(K i).cnt)(e2:sumTo N (λi=>(K' i).late)=sumTo N λi=>(K i).late)
  (e4:(K' ic).shape=(K ic).shape) (e5:∀i,i<N->((K' i).shape=.load 0\/(K' i).shape=.store 0)->((K i).shape=.load 0\/(K i).shape=.store 0)) (e6:∀i,i<N->(K' i).shape=.mT 0->(K i).shape=.mT 0) (hc:w'.heap[c]?=w.heap[c]?) (hW:w'.heap[Wg]?=w.heap[Wg]?)
  (hr:(∀g,gs[ic]?=some g->g.status=.running)->∀g,gs'[ic]?=some g->g.status=.running):Mode P c Wg N w' gs' (t++u) K' ic s:=by
 have e3:∀st sm,WgAt P Wg w' st sm=WgAt P Wg w st sm:=λst sm=>by unfold WgAt;rw[hW]
 unfold Mode at h⊢;simp only[e1,e2,e3,e4,hc];rcases h with h|h|h|h|h|h|h
 ·exact .inl h
 ·exact .inr (.inl h)
 ·exact .inr (.inr (.inl ⟨h.1,h.2.1,h.2.2.1,h.2.2.2.1,h.2.2.2.2.1,λi hi x=>h.2.2.2.2.2.1 i hi (e5 i hi x),λi hi x=>h.2.2.2.2.2.2 i hi (e6 i hi x)⟩))
 ·exact .inr (.inr (.inr (.inl ⟨h.1,h.2.1,h.2.2.1,h.2.2.2.1,h.2.2.2.2.1,hr h.2.2.2.2.2.1,h.2.2.2.2.2.2⟩)))
 ·exact .inr (.inr (.inr (.inr (.inl h))))
 ·exact .inr (.inr (.inr (.inr (.inr (.inl h)))))
 ·obtain⟨⟨p,n,a,b,c',d⟩,e⟩:=h;exact .inr (.inr (.inr (.inr (.inr (.inr ⟨⟨p,n,a,by rw[X2 (Wa b)];exact b,(Wq (Wa b)).2 c',d⟩,e⟩)))))
theorem Mode.waits{c Wg N:Nat}{s:eG}(h:Mode P c Wg N w gs t K ic s):(K ic).cnt=0/\(K ic).late=0:=by
 rw[<- GS.nL,<- GS.mO];rcases h with h|h|h|h|h|h|h
 ·rcases h.2.2.2.2.2 with⟨_,e,_⟩|⟨_,e,_⟩<;>rw[e]<;>exact⟨rfl,rfl⟩
 ·rcases h.2.2.2.2.2.2 with e|e<;>rw[e]<;>exact⟨rfl,rfl⟩
 ·rcases h.2.2.2.2.1 with e|e<;>rw[e]<;>exact⟨rfl,rfl⟩
 ·rcases h.2.2.2.2.2.2 with e|e<;>rw[e]<;>exact⟨rfl,rfl⟩
 ·rcases h.2.2.2.2.2 with e|e<;>rw[e]<;>exact⟨rfl,rfl⟩
 ·rcases h.2.2.2.2 with e|e<;>rw[e]<;>exact⟨rfl,rfl⟩
 ·rw[h.2.2.2];exact⟨rfl,rfl⟩
theorem yM{i:Nat}{k':GS}{a b:Nat}(hlt:i<gs.size)(hr:rq k'.di (K i).di):Bx gs.size ((λj=>(upd K i k' j).di),a) ((λj=>(K j).di),b):=
 .inl ⟨i,hlt,by simpa only[bB]using hr,λj hj=>by show (upd K i k' j).di=(K j).di;rw[ba _ _ hj]⟩
theorem Inv.mode(h:Inv P n0 W0 V gs w t K Im ic (some p) st)(aH:p.recv=true):∃s,st=some s/\0<ic/\ic<gs.size/\Mode P p.c p.Wg gs.size w gs t K ic s:=by
 have hx:=h.phase.2.2.2.2.2.2.2.2.2;rw[if_pos aH]at hx;obtain⟨_,h1,h2,s,h3,h4⟩:=hx;exact⟨s,h3,h1,h2,h4⟩
theorem ofEvents_one{i:Nat}{fn:TO}{pos:String}{e:Ur}:Ta i fn pos #[e]=#[{g:=i,fn,pos,act:=.ofEvent e}]:=by simp[Ta]
theorem PE{t u:Un}{g:Nat}:(t++u).deaf g t.size=US t g:=deaf_old (SR _)
theorem GJ(U:View):mZ noView U:=⟨λ_=> .inl rfl,λ_ _=> .inl rfl,λb hb=>absurd rfl hb⟩
theorem Inv.release(h:Inv P n0 W0 V gs w t K Im ic (some p) st)(aH:p.recv=true){i j:Nat}{gi:SG}{hh:Ht}{Vi V₁:View}{c Wg:Nat}(hi:0<i)(aL:gs[i]?=some gi)(hK:K i=.work j hh Vi)(hg:ej Vi V₁)
  (hr:V₁.role=.work c Wg []) (hd:V₁.deaf=0) (hf:Et P Wg gi):gU P n0 W0 V gs w sl t K Im ic (some p) st i:=by
 have hlt:i<gs.size:=(SU.1 aL).1;have du:=h.is i gi hi aL;simp only[hK,GS.is]at du;obtain⟨bC,_,S,hS,jz⟩:=du;rw[hg.role,jz]at hr;cases hr;have fX:(K i).cnt=1:=by rw[hK];rfl
 obtain⟨⟨n,g_⟩,lI⟩:=h.counted hi hlt fX;obtain⟨s,hs,gM,jf,hm⟩:=h.mode aH;rw[lI]at hs;cases hs;obtain⟨bO,g',lJ,m,b9⟩:=hf;have aG:i≠ic:=λe=>by have:=(Mode.waits hm).1;rw[<- e,fX]at this;cases this
 have aP:US t i=0:=by rw[bC,<- hg.deaf,hd]
 have rZ:Rel p.Wg (t++Ta i gi.frame.fn gi.frame.place #[kB (.releaseMerge (ep p.Wg))]) i t.size:=by
  rw[ofEvents_one];have e:(#[({g:=i,fn:=gi.frame.fn,pos:=gi.frame.place,act:=.ofEvent (kB (.releaseMerge (ep p.Wg)))}:Wc)]:Un)[0]?=some _:=rfl;have g0:=rH (t:=t) e;exact⟨af_ g0,by simp[Wz,g0],heard_new e rfl (by rw[show t.size+0=t.size from rfl,PE];exact aP)⟩
 have n4:∀e∈#[kB (.releaseMerge (ep p.Wg))],e=kB (.releaseMerge (ep p.Wg)):=λe he=>by simpa using he
 refine h.ue aH (k':=.add m) (s':=.early) hi aL (lJ w) ?_ (by rw[hK];exact GJ _) (λx=>by cases x) rfl (λj' iO=> ?_) (.inr (.inr (.inl fX))) (λe he x hx=> ?_) (λe he=> ?_) (λe he a=> ?_) rfl (λ_ _ _=>rfl) rfl rfl rfl ?_ (.inl ⟨n,g_⟩) ?_ (yM hlt ?_)
 ·show cZ P (Bm P p.Wg) m _ g';rw[aP];exact b9
 ·rw[hK]at iO;cases iO;exact⟨hS,t.size,rZ,SR _⟩
 ·rw[n4 e he]at hx;cases hx
 ·rw[n4 e he];exact h.low.2
 ·rw[n4 e he];simp[kB,Tq]
 ·refine hm.al9 (lQ K _ GS.cnt (by rw[fX];rfl)) (lQ K _ GS.late (by rw[hK];rfl)) (by rw[ba _ _ (Ne.symm aG)]) (λm hm=> ?_) (λm hm=> ?_) rfl rfl (acj hlt ?_)
  ·by_cases da:m=i
   ·subst da;rw[bB];intro x;rcases x with x|x<;>cases x
   ·rw[ba _ _ da];exact id
  ·by_cases da:m=i
   ·subst da;rw[bB];intro x;cases x
   ·rw[ba _ _ da];exact id
  ·exact cZ.running (λd g x=>x.2.1) b9
 ·have hr:Rest p.Wg t K ic st:=h.out.2.2.1;rw[lI]at hr;refine hr.app (λidx a ha hx=> .inr (hx.app (by obtain⟨op,ay,_⟩:=UT ha;exact TH ay) λm ww _ hm=> ?_)) (λidx a _ ⟨op,ay,_,hx⟩ _=> ?_)
  ·by_cases da:m=i
   ·subst da;exact .inr ⟨t.size,rZ,by obtain⟨op,ay,_⟩:=UT ha;exact Nat.le_of_lt (TH ay)⟩
   ·rw[ba _ _ da];exact .inl hm
  ·rw[ofEvents_one]at ay;simp only[TJ,SL,S0,or_false]at ay;subst ay;cases hx
 ·rw[hK];refine .inl ?_;simp only[GS.di,jz];omega
def Atom (a:U1)(es:Array Ur):Prop:=es=#[jr a]\/es=#[lA a]\/es=#[jr a,lA a]\/es=A2 a
theorem Atom.mem{a:U1}{es:Array Ur}(h:Atom a es){e:Ur}(he:e∈es):e=jr a\/e=lA a\/e=kB .disable\/e=kB .enable:=by
 rcases h with rfl|rfl|rfl|rfl<;>simp only[A2,TJ,SL,S0,or_false]at he
 ·exact .inl he
 ·exact .inr (.inl he)
 ·exact he.imp id .inl
 ·rcases he with x|x|x|x
  ·exact .inr (.inr (.inl x))
  ·exact .inl x
  ·exact .inr (.inl x)
  ·exact .inr (.inr (.inr x))
theorem Atom.behind{a:U1}{es:Array Ur}(h:Atom a es):deafBehind 1 es=1:=by
 rcases h with rfl|rfl|rfl|rfl<;>rfl
theorem Atom.touch{a:U1}{es:Array Ur}(h:Atom a es){e:Ur}(he:e∈es){x:YH}(hx:(Tq e).touch?=some x):x.loc=.cell a/\x.kind=.atomic:=by
 rcases h.mem he with rfl|rfl|rfl|rfl
 ·cases hx;exact⟨rfl,rfl⟩
 ·cases hx;exact⟨rfl,rfl⟩
 ·cases hx
 ·cases hx
theorem Atom.low{a:U1}{es:Array Ur}(h:Atom a es){n:Nat}(ha:a.block<n){e:Ur}(he:e∈es):(Tq e).low n:=by
 rcases h.mem he with rfl|rfl|rfl|rfl
 ·exact ha
 ·exact ha
 ·trivial
 ·trivial
theorem Atom.norel{a:U1}{es:Array Ur}(h:Atom a es){e:Ur}(he:e∈es)(b:U1):Tq e≠ .mark (.release b):=by
 rcases h.mem he with rfl|rfl|rfl|rfl<;>simp[jr,lA,kB,Tq]
theorem Atom.ar5{a:U1}{es:Array Ur}(h:Atom a es){i:Nat}{fn:TO}{pos:String}(hd:US t i=1){idx:Nat}{op:Wc}{x:YH}(dg:t.size<=idx)(ay:(t++Ta i fn pos es)[idx]?=some op)(hx:op.act.touch?=some x):
  ¬(t++Ta i fn pos es).heard idx:=by
 obtain⟨k,rfl⟩:∃k,idx=t.size+k:=⟨idx-t.size,by omega⟩;have tM:(Ta i fn pos es)[k]?=some op:=by rw[X4 (by omega)]at ay;simpa using ay
 have aL:op.g=i:=by obtain⟨e,_,rfl⟩:=TL (XR tM);rfl
 rintro⟨g,hg,hz⟩
 have:g=i:=by simp[Wz,ay,aL]at hg;exact hg.symm
 subst this;have A7:∀y:Wc,y.act=Tq (jr a)\/y.act=Tq (lA a)->still y.act:=λy hy=>by rcases hy with e|e<;>rw[e]<;>exact⟨by simp[jr,lA,Tq],by simp[jr,lA,Tq]⟩
 rcases h with rfl|rfl|rfl|rfl
 ·have:=uz (t:=t) (u:=Ta g fn pos #[jr a]) (g:=g) (λop ay=>by obtain⟨e,he,rfl⟩:=TL ay;simp only[TJ,SL,S0,or_false]at he;subst he;exact A7 _ (.inl rfl)) (k:=k) (by have:=TH tM;omega);omega
 ·have:=uz (t:=t) (u:=Ta g fn pos #[lA a]) (g:=g) (λop ay=>by obtain⟨e,he,rfl⟩:=TL ay;simp only[TJ,SL,S0,or_false]at he;subst he;exact A7 _ (.inr rfl)) (k:=k) (by have:=TH tM;omega);omega
 ·have:=uz (t:=t) (u:=Ta g fn pos #[jr a,lA a]) (g:=g) (λop ay=>by obtain⟨e,he,rfl⟩:=TL ay;simp only[TJ,SL,S0,or_false]at he;rcases he with rfl|rfl;exact A7 _ (.inl rfl);exact A7 _ (.inr rfl)) (k:=k) (by have:=TH tM;omega);omega
 ·
  have eu:Ta g fn pos (A2 a)=#[{g,fn,pos,act:=.mark .disable},{g,fn,pos,act:=.ofEvent (jr a)},{g,fn,pos,act:=.ofEvent (lA a)},{g,fn,pos,act:=.mark .enable}]:=by simp[Ta,A2,kB,Tq]
  rw[eu]at tM hz;have d0:(t++#[({g,fn,pos,act:=.mark .disable}:Wc),{g,fn,pos,act:=.ofEvent (jr a)},{g,fn,pos,act:=.ofEvent (lA a)},{g,fn,pos,act:=.mark .enable}]).deaf g t.size=1:=by rw[PE];exact hd
  have d1:=Z' (g:=g) (rH (t:=t) (show (#[({g,fn,pos,act:=.mark .disable}:Wc),{g,fn,pos,act:=.ofEvent (jr a)},{g,fn,pos,act:=.ofEvent (lA a)},{g,fn,pos,act:=.mark .enable}]:Un)[0]?=some _ from rfl));have d2:=Z' (g:=g) (rH (t:=t) (show (#[({g,fn,pos,act:=.mark .disable}:Wc),{g,fn,pos,act:=.ofEvent (jr a)},{g,fn,pos,act:=.ofEvent (lA a)},{g,fn,pos,act:=.mark .enable}]:Un)[1]?=some _ from rfl));have d3:=Z' (g:=g) (rH (t:=t) (show (#[({g,fn,pos,act:=.mark .disable}:Wc),{g,fn,pos,act:=.ofEvent (jr a)},{g,fn,pos,act:=.ofEvent (lA a)},{g,fn,pos,act:=.mark .enable}]:Un)[2]?=some _ from rfl));rw[IX (A7 _ (.inl rfl))]at d2;rw[IX (A7 _ (.inr rfl))]at d3;simp only[UD]at d1;rw[d0]at d1;have d1:=d1.trans (show deafStep g 1 {g,fn,pos,act:=.mark .disable}=2 by simp[deafStep]);have hk:k<4:=by have:=TH tM;simpa using this
  match k,hk with
  |0,_=>simp at tM;subst tM;cases hx
  |1,_=>rw[d1]at hz;omega
  |2,_=>rw[show t.size+2=t.size+1+1 from rfl,d2,d1]at hz;omega
  |3,_=>simp at tM;subst tM;cases hx
theorem Rest.atom{Wg:Nat}{s:eG}(hr:Rest Wg t K ic (some s)){a:U1}{es:Array Ur}(h:Atom a es){i:Nat}{fn:TO}{pos:String}(hd:US t i=1){K':Nat->GS}(dg:∀m,(K' m).idx=(K m).idx):Rest Wg (t++Ta i fn pos es) K' ic (some s):=by
 refine hr.app (λidx a ha hx=> .inr (hx.app (by obtain⟨op,ay,_⟩:=UT ha;exact TH ay) λm _ _ hm=> .inl (by rw[dg];exact hm))) (λidx x hi ⟨op,ay,ye,hx⟩ _=> .inr (.inl ⟨?_,h.ar5 hd hi ye hx⟩));obtain⟨e,he,rfl⟩:=TL ay;exact(h.touch he hx).2
theorem WgAt.Hx{Wg:Nat}{a b:Int}(h:WgAt P Wg w a b)(v:Int):WgAt P Wg (w.setCell (ep Wg) (.int .u64 v)) v b:=by
 unfold WgAt at h⊢;unfold Xf;rw[Wi];simp[ep,h,wgBlock]
theorem WgAt.acJ{Wg:Nat}{a b:Int}(h:WgAt P Wg w a b)(v:Int):WgAt P Wg (w.setCell (o4 Wg) (.int .u32 v)) a v:=by
 unfold WgAt at h⊢;unfold Xf;rw[Wi];simp[o4,h,wgBlock]
theorem WgAt.inj{Wg:Nat}{a b a' b':Int}(h:WgAt P Wg w a b)(k:WgAt P Wg w a' b'):a=a'/\b=b':=by
 unfold WgAt at h k;rw[h]at k;simp[wgBlock]at k;exact k
theorem Inv.EK(h:Inv P n0 W0 V gs w t K Im ic (some p) st)(aH:p.recv=true){i:Nat}{gi bH:SG}{es:Array Ur}{k':GS}{s:eG}{a:U1}(hs:st=some s)(hi:0<i)(aL:gs[i]?=some gi)(aR:stepG P false gi w=.go bH w' es)(hd:US t i=1)
  (ha:Atom a es) (zZ:a=ep p.Wg\/a=o4 p.Wg) (lL:w'=w\/∃x,w'=w.setCell a x) (hk:k'.is P p.c p.Wg Im p.Ss 1 bH) (qH:mZ (k'.view Im) ((K i).view Im)) (x9:k'.nK=true->i=ic) (dg:k'.idx=none) (uS:(K i).idx=none)
  (kE:i=ic\/(K i).cnt=1\/(K i).late=1) (g_:∃n,w.heap[p.c]?=some (.chan 0 #[] false n n false))
  (yj:Mode P p.c p.Wg gs.size w' ((gs.map (woken P gi bH w')).setIfInBounds i bH) (t++Ta i gi.frame.fn gi.frame.place es) (upd K i k') ic s) (u5:rq k'.di (K i).di):gU P n0 W0 V gs w sl t K Im ic (some p) st i:=by
 have hlt:i<gs.size:=(SU.1 aL).1;have wj:a.block=p.Wg:=by rcases zZ with rfl|rfl<;>rfl
 have rO:p.c≠p.Wg:=h.phase.2.2.1;have jR:∀b,b≠p.Wg->w'.heap[b]?=w.heap[b]?:=λb hb=>by
  rcases lL with rfl|⟨x,rfl⟩
  ·rfl
  ·exact ws _ _ _ (by rw[wj];exact Ne.symm hb)
 have aY:w'.heap.size=w.heap.size:=by rcases lL with rfl|⟨x,rfl⟩;rfl;exact DZ _ _ _
 refine h.ue aH hi aL aR (by rw[hd,ha.behind];exact hk) qH x9 dg (λj hj=>by rw[uS]at hj;cases hj) (kE.imp id .inr) (λe he x hx=> .inl ?_) (λe he=>ha.low (by rw[wj];exact h.low.2) he) (λe he b=>ha.norel he b) aY (λb _ hb=>jR b hb)
  (by rcases lL with rfl|⟨x,rfl⟩<;>rfl) (by rcases lL with rfl|⟨x,rfl⟩<;>rfl) (by rcases lL with rfl|⟨x,rfl⟩<;>rfl) yj (.inl (by rw[jR _ rO];exact g_)) ?_ (yM hlt u5)
 ·have:=ha.touch he hx;exact⟨by rw[this.1];exact wj,this.2⟩
 ·have hr:Rest p.Wg t K ic st:=h.out.2.2.1;rw[hs]at hr;exact hr.atom ha hd λm=>by
   by_cases hm:m=i
   ·subst hm;rw[bB,dg,uS]
   ·rw[ba _ _ hm]
theorem Inv.aeV(h:Inv P n0 W0 V gs w t K Im ic (some p) st)(aH:p.recv=true){i n:Nat}{gi:SG}(hi:0<i)(aL:gs[i]?=some gi)(hK:K i=.add n)(jT:Bm P p.Wg (US t i) gi):gU P n0 W0 V gs w sl t K Im ic (some p) st i:=by
 have hlt:i<gs.size:=(SU.1 aL).1;obtain⟨s,hs,gM,jf,hm⟩:=h.mode aH;have fX:(K i).cnt=1:=by rw[hK];rfl
 have fF:(K i).late=0:=by rw[hK];rfl
 have uS:(K i).idx=none:=by rw[hK];rfl
 have g_:=(h.counted hi hlt fX).1;have aG:ic≠i:=λe=>by have:=(Mode.waits hm).1;rw[e,fX]at this;cases this
 obtain⟨hd,bO,Gh⟩:=jT;have hle:(K i).cnt<=sumTo gs.size λi=>(K i).cnt:=WB (f:=λi=>(K i).cnt) hlt;have rO:p.c≠p.Wg:=h.phase.2.2.1;have hq:∀(k':GS),sumTo gs.size (λa=>(upd K i k' a).cnt)+(K i).cnt=sumTo gs.size (λa=>(K a).cnt)+k'.cnt:=λk'=>A8 K k' GS.cnt hlt;have tO:∀(k':GS),sumTo gs.size (λa=>(upd K i k' a).late)+(K i).late=sumTo gs.size (λa=>(K a).late)+k'.late:=λk'=>A8 K k' GS.late hlt;have qH:∀k':GS,k'.view Im=noView->mZ (k'.view Im) ((K i).view Im):=λk' e=>by rw[e];exact GJ _
 have leave:∀(wt v:Nat),wt<=1->v+1=(sumTo gs.size λi=>(K i).cnt)->v<4->¬(v=0/\wt=1)->s=.early->(sumTo gs.size λi=>(K i).late)=0->WgAt P p.Wg w (((v+1:Nat):Int)* KK+wt) 0->
   ((wt=0/\((∃k,(K ic).shape=.head k 0/\v<k)\/(∃u,(K ic).shape=.mB u 0/\v<=u/\0<u)))\/(wt=1/\((K ic).shape=.said 0\/(K ic).shape=.iE 0)))->gU P n0 W0 V gs w sl t K Im ic (some p) st i:=by
  intro wt v u' hv Gl fM hse atw hW aZ;obtain⟨g',aR,_,mI⟩:=Gh v wt u' Gl;obtain⟨q,mI⟩:=mI fM;have CZ:=hq (.gone q);have CY:=tO (.gone q);simp only[fX,fF]at CZ CY;rw[show (GS.gone q).cnt=0 from rfl]at CZ;rw[show (GS.gone q).late=0 from rfl]at CY;refine h.EK aH (k':=.gone q) (a:=ep p.Wg) hs hi aL (aR w hW) hd (.inr (.inr (.inl rfl))) (.inl rfl) (.inr ⟨_,rfl⟩) mI (qH _ rfl) (λx=>by cases x) rfl uS (.inr (.inl fX)) g_ ?_ (by rw[hK];exact .inl (by simp[GS.di]));have wa:=hW.Hx ((v:Int)* KK+wt);unfold Mode;simp only[ba _ _ aG];have Jc:sumTo gs.size (λa=>(upd K i (.gone q) a).cnt)=v:=by omega
  have Jf:sumTo gs.size (λa=>(upd K i (.gone q) a).late)=0:=by omega
  simp only[Jc,Jf];have ho:∃n,(w.setCell (ep p.Wg) (.int .u64 ((v:Int)* KK+wt))).heap[p.c]?=some (.chan 0 #[] false n n false):=by
   obtain⟨n,hn⟩:=g_;exact⟨n,by rw[ws _ _ _ (Ne.symm rO)];exact hn⟩
  rcases aZ with⟨rfl,aZ⟩|⟨rfl,aZ⟩
  ·exact .inl ⟨ho,hse,trivial,by omega,by simpa using wa,aZ⟩
  ·exact .inr (.inl ⟨ho,hse,trivial,by omega,by omega,by simpa using wa,aZ⟩)
 unfold Mode at hm;rcases hm with m|m|m|m|m|m|m
 ·obtain⟨m1,m2,m3,m4,m5,m6⟩:=m;refine leave 0 ((sumTo gs.size λi=>(K i).cnt)-1) (by omega) (by omega) (by omega) (by omega) m2 m3 ?_ (.inl ⟨rfl,?_⟩)
  ·rw[show (sumTo gs.size λi=>(K i).cnt)-1+1=(sumTo gs.size λi=>(K i).cnt) by omega];simpa using m5
  ·rcases m6 with⟨k,e1,e2⟩|⟨u,e1,e2,e3⟩
   ·exact .inl ⟨k,e1,by omega⟩
   ·exact .inr ⟨u,e1,by omega,e3⟩
 ·obtain⟨m1,m2,m3,m4,m5,m6,m7⟩:=m;by_cases hv:(sumTo gs.size λi=>(K i).cnt)=1
  ·
   obtain⟨g',aR,iG,_⟩:=Gh 0 1 (by omega) (by omega);obtain⟨n',iG⟩:=iG ⟨rfl,rfl⟩;have CZ:=hq (.load n');have CY:=tO (.load n');simp only[fX,fF]at CZ CY;rw[show (GS.load n').cnt=0 from rfl]at CZ;rw[show (GS.load n').late=1 from rfl]at CY;rw[hv]at m6;have hW:WgAt P p.Wg w (((0+1:Nat):Int)* KK+(1:Nat)) 0:=(by simpa using m6);refine h.EK aH (k':=.load n') (a:=ep p.Wg) hs hi aL (aR w hW) hd (.inr (.inr (.inl rfl))) (.inl rfl) (.inr ⟨_,rfl⟩) iG (qH _ rfl) (λx=>by cases x) rfl uS (.inr (.inl fX)) g_ ?_ (by rw[hK];exact .inl (by simp[GS.di]));have wa:=hW.Hx (((0:Nat):Int)* KK+(1:Nat));unfold Mode;simp only[ba _ _ aG];have Jc:sumTo gs.size (λa=>(upd K i (.load n') a).cnt)=0:=(by omega);have Jf:sumTo gs.size (λa=>(upd K i (.load n') a).late)=1:=(by omega);simp only[Jc,Jf];have ho:∃n,(w.setCell (ep p.Wg) (.int .u64 (((0:Nat):Int)* KK+(1:Nat)))).heap[p.c]?=some (.chan 0 #[] false n n false):=by
    obtain⟨n,hn⟩:=g_;exact⟨n,by rw[ws _ _ _ (Ne.symm rO)];exact hn⟩
   refine .inr (.inr (.inl ⟨ho,m2,trivial,trivial,m7,λ_ _ _=>by simpa using wa,λm hm qM=> ?_⟩));exfalso;have da:m≠i:=λe=>(by subst e;rw[bB]at qM;cases qM);rw[ba _ _ da]at qM;have Sc:(K m).late<=sumTo gs.size λi=>(K i).late:=WB (f:=λi=>(K i).late) hm;rw[m3,<- GS.mO,qM]at Sc;simp[GS.late]at Sc
  ·refine leave 1 ((sumTo gs.size λi=>(K i).cnt)-1) (by omega) (by omega) (by omega) (by omega) m2 m3 ?_ (.inr ⟨rfl,m7⟩);rw[show (sumTo gs.size λi=>(K i).cnt)-1+1=(sumTo gs.size λi=>(K i).cnt) by omega];simpa using m6
 ·have:=m.2.2.2.1;omega
 ·have:=m.2.2.2.1;omega
 ·have:=m.2.2.2.1;omega
 ·have:=m.2.2.2.1;omega
 ·have:=m.2.2.1;omega
theorem Mode.Dm{c Wg N:Nat}{s:eG}(hm:Mode P c Wg N w gs t K ic s){i:Nat}(hlt:i<N)(fF:(K i).late=1):
  (∃n,w.heap[c]?=some (.chan 0 #[] false n n false))/\s=.early/\(sumTo N λi=>(K i).late)=1/\(sumTo N λi=>(K i).cnt)=0/\((K ic).shape=.said 0\/(K ic).shape=.iE 0)/\
  (((K i).shape=.load 0\/(K i).shape=.store 0)->WgAt P Wg w 1 0)/\((K i).shape=.mT 0->WgAt P Wg w 0 0):=by
 have hle:(K i).late<=sumTo N λi=>(K i).late:=WB (f:=λi=>(K i).late) hlt;unfold Mode at hm;rcases hm with m|m|m|m|m|m|m
 ·have:=m.2.2.1;omega
 ·have:=m.2.2.1;omega
 ·exact⟨m.1,m.2.1,m.2.2.1,m.2.2.2.1,m.2.2.2.2.1,m.2.2.2.2.2.1 i hlt,m.2.2.2.2.2.2 i hlt⟩
 ·have:=m.2.2.1;omega
 ·have:=m.2.2.1;omega
 ·have:=m.2.2.1;omega
 ·have:=m.2.1;omega
theorem abI{N:Nat}(h:(sumTo N λi=>(K i).late)=1){i m:Nat}(hi:i<N)(hm:m<N)(aG:m≠i)(fF:(K i).late=1):(K m).late=0:=by
 have:=A8 K (.gone 0) GS.late hi;have h2:((upd K i (.gone 0)) m).late<=sumTo N λa=>(upd K i (.gone 0) a).late:=WB (f:=λa=>(upd K i (.gone 0) a).late) hm;rw[ba _ _ aG]at h2;simp only[fF,h,show (GS.gone 0).late=0 from rfl]at this;omega
theorem Inv.Mu(h:Inv P n0 W0 V gs w t K Im ic (some p) st)(aH:p.recv=true){i:Nat}{gi bH:SG}{es:Array Ur}{k':GS}{a:U1}(hi:0<i)(aL:gs[i]?=some gi)(aR:stepG P false gi w=.go bH w' es)(hd:US t i=1)
  (ha:Atom a es) (zZ:a=ep p.Wg\/a=o4 p.Wg) (lL:w'=w\/∃x,w'=w.setCell a x) (hk:k'.is P p.c p.Wg Im p.Ss 1 bH) (hv:k'.view Im=noView) (dg:k'.idx=none) (uS:(K i).idx=none) (pC:(K i).cnt=0) (aj4:k'.cnt=0) (x9:k'.nK=false) (fF:(K i).late=1)
  (tE:(k'.late=1/\((k'.shape=.load 0\/k'.shape=.store 0)->WgAt P p.Wg w' 1 0)/\(k'.shape=.mT 0->WgAt P p.Wg w' 0 0))\/
   (k'.late=0/\WgAt P p.Wg w' 0 1/\∀g,((gs.map (woken P gi bH w')).setIfInBounds i bH)[ic]?=some g->g.status=.running)) (u5:rq k'.di (K i).di):gU P n0 W0 V gs w sl t K Im ic (some p) st i:=by
 have hlt:i<gs.size:=(SU.1 aL).1;obtain⟨s,hs,gM,jf,hm⟩:=h.mode aH;obtain⟨m1,m2,m3,m4,m5,m6,m7⟩:=hm.Dm hlt fF;have aG:ic≠i:=λe=>by have:=(Mode.waits hm).2;rw[e,fF]at this;cases this
 have rO:p.c≠p.Wg:=h.phase.2.2.1;have wj:a.block=p.Wg:=by rcases zZ with rfl|rfl<;>rfl
 have jR:∀b,b≠p.Wg->w'.heap[b]?=w.heap[b]?:=λb hb=>by
  rcases lL with rfl|⟨x,rfl⟩
  ·rfl
  ·exact ws _ _ _ (by rw[wj];exact Ne.symm hb)
 refine h.EK aH hs hi aL aR hd ha zZ lL hk (by rw[hv];exact GJ _) (λx=>by rw[x9]at x;cases x) dg uS (.inr (.inr fF)) m1 ?_ u5;have e1:sumTo gs.size (λa=>(upd K i k' a).cnt)=0:=by have:=A8 K k' GS.cnt hlt;simp only[pC,aj4,m4]at this;omega
 unfold Mode;simp only[ba _ _ aG,e1,jR _ rO];rcases tE with⟨x1,x2,x3⟩|⟨x1,x2,x3⟩
 ·have e2:sumTo gs.size (λa=>(upd K i k' a).late)=1:=by have:=A8 K k' GS.late hlt;simp only[fF,x1,m3]at this;omega
  refine .inr (.inr (.inl ⟨m1,m2,e2,trivial,m5,λm hm ee=> ?_,λm hm ee=> ?_⟩))
  ·by_cases da:m=i
   ·subst da;rw[bB]at ee;exact x2 ee
   ·rw[ba _ _ da]at ee;have:=abI m3 hlt hm da fF;rw[<- GS.mO]at this;rcases ee with e|e<;>rw[e]at this<;>cases this
  ·by_cases da:m=i
   ·subst da;rw[bB]at ee;exact x3 ee
   ·rw[ba _ _ da]at ee;have:=abI m3 hlt hm da fF;rw[<- GS.mO,ee]at this;cases this
 ·have e2:sumTo gs.size (λa=>(upd K i k' a).late)=0:=by have:=A8 K k' GS.late hlt;simp only[fF,x1,m3]at this;omega
  exact .inr (.inr (.inr (.inl ⟨m1,m2,e2,trivial,x2,x3,m5⟩)))
theorem Inv.amY(h:Inv P n0 W0 V gs w t K Im ic (some p) st)(aH:p.recv=true){i n:Nat}{gi:SG}(hi:0<i)(aL:gs[i]?=some gi)(hK:K i=.load n)(jT:El P p.Wg (US t i) gi):gU P n0 W0 V gs w sl t K Im ic (some p) st i:=by
 have hlt:i<gs.size:=(SU.1 aL).1;obtain⟨s,hs,gM,jf,hm⟩:=h.mode aH;have fF:(K i).late=1:=by rw[hK];rfl
 obtain⟨m1,m2,m3,m4,m5,m6,m7⟩:=hm.Dm hlt fF;obtain⟨hd,bO,g',aR,n',b9⟩:=jT;have hW:=m6 (by rw[hK];exact .inl rfl);exact h.Mu aH (k':=.store n') (a:=ep p.Wg) hi aL (aR w hW) hd (.inl rfl) (.inl rfl) (.inl rfl) b9 rfl rfl (by rw[hK];rfl) (by rw[hK];rfl) rfl rfl fF (.inl ⟨rfl,λ_=>hW,λx=>by cases x⟩) (by rw[hK];exact .inl (by simp[GS.di]))
theorem Inv.aq7(h:Inv P n0 W0 V gs w t K Im ic (some p) st)(aH:p.recv=true){i n:Nat}{gi:SG}(hi:0<i)(aL:gs[i]?=some gi)(hK:K i=.store n)(jT:En P p.Wg (US t i) gi):gU P n0 W0 V gs w sl t K Im ic (some p) st i:=by
 have hlt:i<gs.size:=(SU.1 aL).1;obtain⟨s,hs,gM,jf,hm⟩:=h.mode aH;have fF:(K i).late=1:=by rw[hK];rfl
 obtain⟨m1,m2,m3,m4,m5,m6,m7⟩:=hm.Dm hlt fF;obtain⟨hd,bO,g',aR,n',b9⟩:=jT;have hW:=m6 (by rw[hK];exact .inr rfl);exact h.Mu aH (k':=.mT n') (a:=ep p.Wg) hi aL (aR w hW) hd (.inr (.inl rfl)) (.inl rfl) (.inr ⟨_,rfl⟩) b9 rfl rfl (by rw[hK];rfl) (by rw[hK];rfl) rfl rfl fF (.inl ⟨rfl,λx=>(x.elim (λy=>by cases y) (λy=>by cases y)),λ_=>hW.Hx 0⟩) (by rw[hK];exact .inl (by simp[GS.di]))
theorem Inv.aql(h:Inv P n0 W0 V gs w t K Im ic (some p) st)(aH:p.recv=true){i n:Nat}{gi:SG}(hi:0<i)(aL:gs[i]?=some gi)(hK:K i=.mT n)(jT:Em P p.Wg (US t i) gi):gU P n0 W0 V gs w sl t K Im ic (some p) st i:=by
 have hlt:i<gs.size:=(SU.1 aL).1;obtain⟨s,hs,gM,jf,hm⟩:=h.mode aH;have fF:(K i).late=1:=by rw[hK];rfl
 obtain⟨m1,m2,m3,m4,m5,m6,m7⟩:=hm.Dm hlt fF;obtain⟨hd,bO,K6,g',aR,q,mI⟩:=jT;have hW:=m7 (by rw[hK];rfl);have aG:ic≠i:=λe=>by have:=(Mode.waits hm).2;rw[e,fF]at this;cases this
 refine h.Mu aH (k':=.gone q) (a:=o4 p.Wg) hi aL (aR w hW) hd (.inr (.inr (.inr rfl))) (.inr rfl) (.inr ⟨_,rfl⟩) mI rfl rfl (by rw[hK];rfl) (by rw[hK];rfl) rfl rfl fF (.inr ⟨rfl,hW.acJ 1,λg hg=> ?_⟩) (by rw[hK];exact .inl (by simp[GS.di]));rcases getElem?_next hlt hg with⟨e,_⟩|⟨_,y,hy,rfl⟩
 ·exact absurd e aG
 ·have yg:=h.is ic y gM hy;simp only at yg;have ee:(∃n,K ic=.said n)\/∃n,K ic=.iE n:=by
   cases xV:K ic<;>rw[xV]at m5<;>simp[GS.shape]at m5
   ·exact .inl ⟨_,rfl⟩
   ·exact .inr ⟨_,rfl⟩
  rcases ee with⟨n1,e⟩|⟨n1,e⟩
  ·rw[e]at yg;have hr:y.status=.running:=iB.running (λd g x=>x.2.1) yg;rw[Yg hr];exact hr
  ·rw[e]at yg;rcases yg with yg|⟨_,g1,rfl,KF⟩
   ·have hr:y.status=.running:=cZ.running (λd g x=>x.2.1) yg;rw[Yg hr];exact hr
   ·have KM:g'.status=.running\/g'.status=.finished:=ZE mI;unfold woken;have aj3:(mayWake P gi&&g'.status != .blocked&&g'.status != .waiting)=true:=(by rcases KM with hs|hs<;>simp[K6,hs]);rw[if_pos aj3];unfold YS;have:=KF.2.2.1;simp[this]
theorem Mode.afu{c Wg N k:Nat}{s:eG}(hm:Mode P c Wg N w gs t K ic s)(e:(K ic).shape=.head k 0):
  (∃n,w.heap[c]?=some (.chan 0 #[] false n n false))/\s=.early/\(sumTo N λi=>(K i).late)=0/\(sumTo N λi=>(K i).cnt)<=4/\WgAt P Wg w (((sumTo N λi=>(K i).cnt:Nat):Int)* KK) 0/\(sumTo N λi=>(K i).cnt)<k:=by
 unfold Mode at hm;simp only[e]at hm;rcases hm with m|m|m|m|m|m|m
 ·obtain⟨a,b,c,d,f,x⟩:=m;refine⟨a,b,c,d,f,?_⟩;rcases x with⟨k',x,y⟩|⟨v,x,_⟩
  ·cases x;exact y
  ·cases x
 ·rcases m.2.2.2.2.2.2 with x|x<;>cases x
 ·rcases m.2.2.2.2.1 with x|x<;>cases x
 ·rcases m.2.2.2.2.2.2 with x|x<;>cases x
 ·rcases m.2.2.2.2.2 with x|x<;>cases x
 ·rcases m.2.2.2.2 with x|x<;>cases x
 ·cases m.2.2.2
theorem Mode.afs{c Wg N v:Nat}{s:eG}(hm:Mode P c Wg N w gs t K ic s)(e:(K ic).shape=.mB v 0):
  (∃n,w.heap[c]?=some (.chan 0 #[] false n n false))/\s=.early/\(sumTo N λi=>(K i).late)=0/\(sumTo N λi=>(K i).cnt)<=4/\WgAt P Wg w (((sumTo N λi=>(K i).cnt:Nat):Int)* KK) 0/\(sumTo N λi=>(K i).cnt)<=v/\0<v:=by
 unfold Mode at hm;simp only[e]at hm;rcases hm with m|m|m|m|m|m|m
 ·obtain⟨a,b,c,d,f,x⟩:=m;refine⟨a,b,c,d,f,?_⟩;rcases x with⟨k',x,y⟩|⟨v,x,y⟩
  ·cases x
  ·cases x;exact y
 ·rcases m.2.2.2.2.2.2 with x|x<;>cases x
 ·rcases m.2.2.2.2.1 with x|x<;>cases x
 ·rcases m.2.2.2.2.2.2 with x|x<;>cases x
 ·rcases m.2.2.2.2.2 with x|x<;>cases x
 ·rcases m.2.2.2.2 with x|x<;>cases x
 ·cases m.2.2.2
theorem Mode.OS{c Wg N:Nat}{s:eG}(hm:Mode P c Wg N w gs t K ic s)(e:(K ic).shape=.last 0\/(K ic).shape=.acq 0):
  (∃n,w.heap[c]?=some (.chan 0 #[] false n n false))/\s=.early/\(sumTo N λi=>(K i).late)=0/\(sumTo N λi=>(K i).cnt)=0/\WgAt P Wg w 0 0:=by
 unfold Mode at hm;rcases hm with m|m|m|m|m|m|m
 ·rcases m.2.2.2.2.2 with⟨_,x,_⟩|⟨_,x,_⟩<;>rcases e with e|e<;>rw[e]at x<;>cases x
 ·rcases m.2.2.2.2.2.2 with x|x<;>rcases e with e|e<;>rw[e]at x<;>cases x
 ·rcases m.2.2.2.2.1 with x|x<;>rcases e with e|e<;>rw[e]at x<;>cases x
 ·rcases m.2.2.2.2.2.2 with x|x<;>rcases e with e|e<;>rw[e]at x<;>cases x
 ·exact⟨m.1,m.2.1,m.2.2.1,m.2.2.2.1,m.2.2.2.2.1⟩
 ·rcases m.2.2.2.2 with x|x<;>rcases e with e|e<;>rw[e]at x<;>cases x
 ·have x:=m.2.2.2;rcases e with e|e<;>rw[e]at x<;>cases x
theorem Mode.OT{c Wg N:Nat}{s:eG}(hm:Mode P c Wg N w gs t K ic s)(e:(K ic).shape=.look 0\/(K ic).shape=.close 0):
  (∃n,w.heap[c]?=some (.chan 0 #[] false n n false))/\s=.got/\(sumTo N λi=>(K i).late)=0/\(sumTo N λi=>(K i).cnt)=0:=by
 unfold Mode at hm;rcases hm with m|m|m|m|m|m|m
 ·rcases m.2.2.2.2.2 with⟨_,x,_⟩|⟨_,x,_⟩<;>rcases e with e|e<;>rw[e]at x<;>cases x
 ·rcases m.2.2.2.2.2.2 with x|x<;>rcases e with e|e<;>rw[e]at x<;>cases x
 ·rcases m.2.2.2.2.1 with x|x<;>rcases e with e|e<;>rw[e]at x<;>cases x
 ·rcases m.2.2.2.2.2.2 with x|x<;>rcases e with e|e<;>rw[e]at x<;>cases x
 ·rcases m.2.2.2.2.2 with x|x<;>rcases e with e|e<;>rw[e]at x<;>cases x
 ·exact⟨m.1,m.2.1,m.2.2.1,m.2.2.2.1⟩
 ·have x:=m.2.2.2;rcases e with e|e<;>rw[e]at x<;>cases x
theorem Mode.OU{c Wg N:Nat}{s:eG}(hm:Mode P c Wg N w gs t K ic s)(e:(K ic).shape=.said 0\/(K ic).shape=.iE 0):
  (∃n,w.heap[c]?=some (.chan 0 #[] false n n false))/\s=.early/\((∃st,WgAt P Wg w st 0)\/((sumTo N λi=>(K i).late)=0/\(sumTo N λi=>(K i).cnt)=0/\WgAt P Wg w 0 1))/\
  ∀{w':To}{gs':Array SG}{u:Un}{k':GS},(k'.shape=.said 0\/k'.shape=.iE 0)->w'.heap[c]?=w.heap[c]?->w'.heap[Wg]?=w.heap[Wg]?->(WgAt P Wg w 0 1->∀g,gs'[ic]?=some g->g.status=.running)->ic<N->Mode P c Wg N w' gs' (t++u) (upd K ic k') ic s:=by
 have wait:∀{k:GS},(k.shape=.said 0\/k.shape=.iE 0)->k.cnt=0/\k.late=0:=λ{k} h=>by rw[<- GS.nL,<- GS.mO];rcases h with h|h<;>rw[h]<;>exact⟨rfl,rfl⟩
 have tail:∀(w':To)(gs':Array SG)(u:Un)(k':GS),(k'.shape=.said 0\/k'.shape=.iE 0)->w'.heap[c]?=w.heap[c]?->w'.heap[Wg]?=w.heap[Wg]?->(WgAt P Wg w 0 1->∀g,gs'[ic]?=some g->g.status=.running)->ic<N->Mode P c Wg N w' gs' (t++u) (upd K ic k') ic s:=by
  intro w' gs' u k' hk hc hW hr gw;have e1:sumTo N (λi=>(upd K ic k' i).cnt)=sumTo N λi=>(K i).cnt:=lQ K k' GS.cnt (by rw[(wait hk).1,(wait e).1]);have e2:sumTo N (λi=>(upd K ic k' i).late)=sumTo N λi=>(K i).late:=lQ K k' GS.late (by rw[(wait hk).2,(wait e).2]);have e3:∀st sm,WgAt P Wg w' st sm=WgAt P Wg w st sm:=λst sm=>by unfold WgAt;rw[hW]
  have e5:∀i (q:GS),(q=.load 0\/q=.store 0\/q=.mT 0)->(upd K ic k' i).shape=q->(K i).shape=q:=λi q hq hs=>by
   by_cases hi:i=ic
   ·subst hi;rw[bB]at hs;rcases hk with x|x<;>rw[x]at hs<;>subst hs<;>rcases hq with y|y|y<;>cases y
   ·rw[ba _ _ hi]at hs;exact hs
  unfold Mode at hm⊢;simp only[e1,e2,e3,hc,bB];rcases hm with m|m|m|m|m|m|m
  ·rcases m.2.2.2.2.2 with⟨_,x,_⟩|⟨_,x,_⟩<;>rcases e with e|e<;>rw[e]at x<;>cases x
  ·exact .inr (.inl ⟨m.1,m.2.1,m.2.2.1,m.2.2.2.1,m.2.2.2.2.1,m.2.2.2.2.2.1,hk⟩)
  ·exact .inr (.inr (.inl ⟨m.1,m.2.1,m.2.2.1,m.2.2.2.1,hk,λi hi x=>m.2.2.2.2.2.1 i hi (x.imp (e5 i _ (.inl rfl)) (e5 i _ (.inr (.inl rfl)))),λi hi x=>m.2.2.2.2.2.2 i hi (e5 i _ (.inr (.inr rfl)) x)⟩))
  ·exact .inr (.inr (.inr (.inl ⟨m.1,m.2.1,m.2.2.1,m.2.2.2.1,m.2.2.2.2.1,hr m.2.2.2.2.1,hk⟩)))
  ·rcases m.2.2.2.2.2 with x|x<;>rcases e with e|e<;>rw[e]at x<;>cases x
  ·rcases m.2.2.2.2 with x|x<;>rcases e with e|e<;>rw[e]at x<;>cases x
  ·have x:=m.2.2.2;rcases e with e|e<;>rw[e]at x<;>cases x
 have jg:=hm;unfold Mode at hm;rcases hm with m|m|m|m|m|m|m
 ·rcases m.2.2.2.2.2 with⟨_,x,_⟩|⟨_,x,_⟩<;>rcases e with e|e<;>rw[e]at x<;>cases x
 ·exact⟨m.1,m.2.1,.inl ⟨_,m.2.2.2.2.2.1⟩,λ{w'} {gs'} {u} {k'}=>tail w' gs' u k'⟩
 ·refine⟨m.1,m.2.1,.inl ?_,λ{w'} {gs'} {u} {k'}=>tail w' gs' u k'⟩;have:∃i,i<N/\(K i).late=1:=by
   apply Ts;intro fM;have hz:sumTo N (λi=>(K i).late)=sumTo N λ_=>0:=Vl λi hi=>by
    have aG:¬(K i).late=1:=λx=>fM ⟨i,hi,x⟩;cases lB:K i<;>rw[lB]at aG<;>first|rfl|exact absurd rfl aG
   have h0:sumTo N (λ_=>0)=0:=by
    have:∀N,sumTo N (λ_=>0)=0:=λN=>(by induction N with|zero=>rfl|succ N ih=>simp[sumTo,ih]);exact this N
   have:=m.2.2.1;omega
  obtain⟨i,hi,fF⟩:=this;obtain⟨_,_,_,_,_,m6,m7⟩:=jg.Dm hi fF;cases lB:K i<;>rw[lB]at fF m6 m7<;>simp[GS.late]at fF
  ·exact⟨1,m6 (.inl rfl)⟩
  ·exact⟨1,m6 (.inr rfl)⟩
  ·exact⟨0,m7 rfl⟩
 ·exact⟨m.1,m.2.1,.inr ⟨m.2.2.1,m.2.2.2.1,m.2.2.2.2.1⟩,λ{w'} {gs'} {u} {k'}=>tail w' gs' u k'⟩
 ·rcases m.2.2.2.2.2 with x|x<;>rcases e with e|e<;>rw[e]at x<;>cases x
 ·rcases m.2.2.2.2 with x|x<;>rcases e with e|e<;>rw[e]at x<;>cases x
 ·have x:=m.2.2.2;rcases e with e|e<;>rw[e]at x<;>cases x
theorem GI(Im:cE):mZ {noView with ab:=Im} {noView with ab:=Im}:=⟨λ_=> .inr rfl,λ_ _=> .inr rfl,λ_ _ _=>rfl⟩
theorem amJ(Im:cE):mZ noView {noView with ab:=Im}:=⟨λ_=> .inr rfl,λ_ _=> .inl rfl,λb hb=>absurd rfl hb⟩
theorem Inv.zF(h:Inv P n0 W0 V gs w t K Im ic (some p) st)(aH:p.recv=true){gi bH:SG}{es:Array Ur}{k':GS}{a:U1}{s:eG}(hs:st=some s)(aL:gs[ic]?=some gi)(aR:stepG P false gi w=.go bH w' es)(hd:US t ic=1)
  (ha:Atom a es) (zZ:a=ep p.Wg\/a=o4 p.Wg) (lL:w'=w\/∃x,w'=w.setCell a x) (hk:k'.is P p.c p.Wg Im p.Ss 1 bH) (hv:k'.view Im={noView with ab:=Im}) (yu:(K ic).view Im={noView with ab:=Im}) (dg:k'.idx=none) (uS:(K ic).idx=none)
  (g_:∃n,w.heap[p.c]?=some (.chan 0 #[] false n n false))
  (yj:Mode P p.c p.Wg gs.size w' ((gs.map (woken P gi bH w')).setIfInBounds ic bH) (t++Ta ic gi.frame.fn gi.frame.place es) (upd K ic k') ic s) (u5:rq k'.di (K ic).di):gU P n0 W0 V gs w sl t K Im ic (some p) st ic:=by
 obtain⟨s',_,gM,_,_⟩:=h.mode aH;exact h.EK aH hs gM aL aR hd ha zZ lL hk (by rw[hv,yu];exact GI Im) (λ_=>rfl) dg uS (.inl rfl) g_ yj u5
theorem Inv.ako(h:Inv P n0 W0 V gs w t K Im ic (some p) st)(aH:p.recv=true){k n:Nat}{gi:SG}(aL:gs[ic]?=some gi)(hK:K ic=.head k n)(jT:eT P Im p.c p.Wg k (US t ic) gi):gU P n0 W0 V gs w sl t K Im ic (some p) st ic:=by
 obtain⟨s,hs,gM,jf,hm⟩:=h.mode aH;obtain⟨m1,m2,m3,m4,m5,m6⟩:=hm.afu (k:=k) (by rw[hK];rfl);obtain⟨k,rfl⟩:∃k',k=k'+1:=⟨k-1,by omega⟩;obtain⟨hd,bO,Gh⟩:=eT.succ _ _ _ _ jT;obtain⟨g',aR,hz,La⟩:=Gh _ (by omega) m4;have mb:=aR w m5;have uy:∀k':GS,k'.cnt=0->k'.late=0->sumTo gs.size (λi=>(upd K ic k' i).cnt)=(sumTo gs.size λi=>(K i).cnt)/\sumTo gs.size (λi=>(upd K ic k' i).late)=(sumTo gs.size λi=>(K i).late):=λk' h1 h2=>
  ⟨lQ K k' GS.cnt (by rw[h1,hK];rfl),lQ K k' GS.late (by rw[h2,hK];rfl)⟩
 by_cases hv:(sumTo gs.size λi=>(K i).cnt)=0
 ·obtain⟨n',b9⟩:=hz hv;refine h.zF aH (k':=.acq n') (a:=ep p.Wg) hs aL mb hd (.inl rfl) (.inl rfl) (.inl rfl) b9 rfl (by rw[hK];rfl) rfl (by rw[hK];rfl) m1 ?_ (by rw[hK];exact .inl (by simp[GS.di];omega));unfold Mode;simp only[(uy (.acq n') rfl rfl).1,(uy (.acq n') rfl rfl).2,bB];refine .inr (.inr (.inr (.inr (.inl ⟨m1,m2,m3,hv,?_,.inr rfl⟩))));rw[hv]at m5;simpa using m5
 ·obtain⟨n',b9⟩:=La hv;refine h.zF aH (k':=.mB (sumTo gs.size λi=>(K i).cnt) n') (a:=ep p.Wg) hs aL mb hd (.inl rfl) (.inl rfl) (.inl rfl) b9 rfl (by rw[hK];rfl) rfl (by rw[hK];rfl) m1 ?_ (by rw[hK];exact .inl (by simp[GS.di];omega));unfold Mode;simp only[(uy (.mB _ n') rfl rfl).1,(uy (.mB _ n') rfl rfl).2,bB];exact .inl ⟨m1,m2,m3,m4,m5,.inr ⟨_,rfl,SR _,by omega⟩⟩
theorem Inv.agt(h:Inv P n0 W0 V gs w t K Im ic (some p) st)(aH:p.recv=true){v n:Nat}{gi:SG}(aL:gs[ic]?=some gi)(hK:K ic=.mB v n)(jT:Ei P p.c p.Wg Im v (US t ic) gi):gU P n0 W0 V gs w sl t K Im ic (some p) st ic:=by
 obtain⟨s,hs,gM,jf,hm⟩:=h.mode aH;obtain⟨m1,m2,m3,m4,m5,m6,m7⟩:=hm.afs (v:=v) (by rw[hK];rfl);obtain⟨hd,bO,⟨g1,Ge,n1,alv⟩,akH⟩:=jT;have rO:p.c≠p.Wg:=h.phase.2.2.1;have uy:∀k':GS,k'.cnt=0->k'.late=0->sumTo gs.size (λi=>(upd K ic k' i).cnt)=(sumTo gs.size λi=>(K i).cnt)/\sumTo gs.size (λi=>(upd K ic k' i).late)=(sumTo gs.size λi=>(K i).late):=λk' h1 h2=>
  ⟨lQ K k' GS.cnt (by rw[h1,hK];rfl),lQ K k' GS.late (by rw[h2,hK];rfl)⟩
 by_cases hv:(sumTo gs.size λi=>(K i).cnt)=v
 ·refine h.zF aH (k':=.said n1) (a:=ep p.Wg) hs aL (Ge w (by rw[<- hv];exact m5)) hd (.inr (.inr (.inl rfl))) (.inl rfl) (.inr ⟨_,rfl⟩) alv rfl (by rw[hK];rfl) rfl (by rw[hK];rfl) m1 ?_ (by rw[hK];exact .inl (by simp[GS.di];omega));unfold Mode;simp only[(uy (.said n1) rfl rfl).1,(uy (.said n1) rfl rfl).2,bB];refine .inr (.inl ⟨?_,m2,m3,by omega,m4,?_,.inl rfl⟩)
  ·obtain⟨n,hn⟩:=m1;exact⟨n,by rw[ws _ _ _ (Ne.symm rO)];exact hn⟩
  ·rw[hv];exact m5.Hx _
 ·obtain⟨g',mb,n',b9⟩:=akH (sumTo gs.size λi=>(K i).cnt) (by omega);refine h.zF aH (k':=.head v n') (a:=ep p.Wg) hs aL (mb w m5) hd (.inl rfl) (.inl rfl) (.inl rfl) b9 rfl (by rw[hK];rfl) rfl (by rw[hK];rfl) m1 ?_ (by rw[hK];exact .inl (by simp[GS.di]));unfold Mode;simp only[(uy (.head v n') rfl rfl).1,(uy (.head v n') rfl rfl).2,bB];exact .inl ⟨m1,m2,m3,m4,m5,.inl ⟨v,rfl,by omega⟩⟩
theorem Inv.ami(h:Inv P n0 W0 V gs w t K Im ic (some p) st)(aH:p.recv=true){n:Nat}{gi:SG}(aL:gs[ic]?=some gi)(hK:K ic=.last n)(jT:H8 P Im p.c p.Wg (US t ic) gi):gU P n0 W0 V gs w sl t K Im ic (some p) st ic:=by
 obtain⟨s,hs,gM,jf,hm⟩:=h.mode aH;obtain⟨m1,m2,m3,m4,m5⟩:=hm.OS (.inl (by rw[hK];rfl));obtain⟨hd,bO,g',aR,n',b9⟩:=jT;refine h.zF aH (k':=.acq n') (a:=ep p.Wg) hs aL (aR w m5) hd (.inl rfl) (.inl rfl) (.inl rfl) b9 rfl (by rw[hK];rfl) rfl (by rw[hK];rfl) m1 ?_ (by rw[hK];exact .inl (by simp[GS.di]));unfold Mode;have e1:sumTo gs.size (λi=>(upd K ic (.acq n') i).cnt)=0:=by rw[lQ K (.acq n') GS.cnt (by rw[hK];rfl)];exact m4
 have e2:sumTo gs.size (λi=>(upd K ic (.acq n') i).late)=0:=by rw[lQ K (.acq n') GS.late (by rw[hK];rfl)];exact m3
 simp only[e1,e2,bB];exact .inr (.inr (.inr (.inr (.inl ⟨m1,m2,trivial,trivial,m5,.inr rfl⟩))))
theorem Inv.agF(h:Inv P n0 W0 V gs w t K Im ic (some p) st)(aH:p.recv=true){n:Nat}{gi:SG}(aL:gs[ic]?=some gi)(hK:K ic=.iE n)(jT:Ek P Im p.c p.Wg (US t ic) gi):gU P n0 W0 V gs w sl t K Im ic (some p) st ic:=by
 obtain⟨s,hs,gM,jf,hm⟩:=h.mode aH;obtain⟨m1,m2,m3,mk⟩:=hm.OU (.inr (by rw[hK];rfl));obtain⟨hd,bO,akS,wj,g',aam,n',b9⟩:=jT;have rO:p.c≠p.Wg:=h.phase.2.2.1;rcases m3 with⟨stv,hW⟩|⟨m4,m5,hW⟩
 ·
  have aR:=wj w stv hW;have akM:¬WgAt P p.Wg w 0 1:=λx=>by have:=(hW.inj x).2;cases this
  refine h.ue aH (k':=.iE 0) (s':=s) gM aL aR (.inr ⟨rfl,gi,rfl,by rw[hd];exact⟨rfl,bO,akS,wj,g',aam,n',b9⟩⟩) (by rw[hK];exact GI Im) (λ_=>rfl) rfl (λj hj=>by rw[hK]at hj;cases hj) (.inl rfl) (by simp) (by simp) (by simp) rfl (λ_ _ _=>rfl) rfl rfl rfl
   (mk (.inr rfl) rfl rfl (λx=>absurd x akM) jf) (.inl m1) ?_ ?_
  ·have e0:t++Ta ic gi.frame.fn gi.frame.place #[]=t:=(by simp[Ta]);have hr:Rest p.Wg t K ic st:=h.out.2.2.1;rw[hs]at hr;refine hr.app (λidx a ha hx=> .inr (hx.app (by obtain⟨op,ay,_⟩:=UT ha;exact TH ay) λm _ _ hj=> .inl ?_)) (λidx a _ ⟨op,ay,_⟩ _=>by simp[Ta]at ay);by_cases da:m=ic
   ·subst da;rw[hK]at hj;cases hj
   ·rw[ba _ _ da];exact hj
  ·by_cases hn:n=0
   ·refine .inr ⟨funext λj=> ?_,?_⟩
    ·by_cases hj:j=ic
     ·subst hj;simp only[bB,hK,hn]
     ·simp only[ba _ _ hj]
    ·simp only[flag];rw[S_ (by simpa using jf),aL];simp[bO]
   ·exact yM jf (by rw[hK];exact .inr ⟨rfl,.inr ⟨rfl,by simp only[GS.di];omega⟩⟩)
 ·refine h.zF aH (k':=.last n') (a:=o4 p.Wg) hs aL (aam w hW) hd (.inr (.inr (.inr rfl))) (.inr rfl) (.inr ⟨_,rfl⟩) b9 rfl (by rw[hK];rfl) rfl (by rw[hK];rfl) m1 ?_ (by rw[hK];exact .inl (by simp[GS.di]));unfold Mode;have e1:sumTo gs.size (λi=>(upd K ic (.last n') i).cnt)=0:=by rw[lQ K (.last n') GS.cnt (by rw[hK];rfl)];exact m5
  have e2:sumTo gs.size (λi=>(upd K ic (.last n') i).late)=0:=by rw[lQ K (.last n') GS.late (by rw[hK];rfl)];exact m4
  simp only[e1,e2,bB];obtain⟨n,hn⟩:=m1;exact .inr (.inr (.inr (.inr (.inl ⟨⟨n,by rw[ws _ _ _ (Ne.symm rO)];exact hn⟩,m2,trivial,trivial,hW.acJ 0,.inl rfl⟩))))
theorem Inv.ap2(h:Inv P n0 W0 V gs w t K Im ic (some p) st)(aH:p.recv=true){n:Nat}{gi:SG}(aL:gs[ic]?=some gi)(hK:K ic=.said n)(jT:Ej P Im p.c p.Wg (US t ic) gi):gU P n0 W0 V gs w sl t K Im ic (some p) st ic:=by
 obtain⟨s,hs,gM,jf,hm⟩:=h.mode aH;obtain⟨m1,m2,m3,mk⟩:=hm.OU (.inl (by rw[hK];rfl));obtain⟨hd,bO,g',aR,n',b9⟩:=jT;have n4:∀e∈#[kB (.write (o4 p.Wg))],e=kB (.write (o4 p.Wg)):=λe he=>by simpa using he
 have aai:g'.status=.running:=cZ.running (λd g x=>x.2.1) b9;refine h.ue aH (k':=.iE n') (s':=s) gM aL (aR w) (.inl (by rw[hd];exact b9)) (by rw[hK];exact GI Im) (λ_=>rfl) rfl (λj hj=>by rw[hK]at hj;cases hj) (.inl rfl) (λe he x hx=> .inr (.inl ?_)) (λe he=> ?_) (λe he a=> ?_) rfl (λ_ _ _=>rfl) rfl rfl rfl
  (mk (.inr rfl) rfl rfl (λ_ g hg=> ?_) jf) (.inl m1) ?_ (yM jf (by rw[hK];exact .inl (by simp[GS.di])))
 ·rw[n4 e he]at hx;cases hx;exact⟨rfl,rfl,rfl⟩
 ·rw[n4 e he];exact h.low.2
 ·rw[n4 e he];simp[kB,Tq]
 ·rcases getElem?_next jf hg with⟨_,rfl⟩|⟨aG,_⟩
  ·exact aai
  ·exact absurd rfl aG
 ·have hr:Rest p.Wg t K ic st:=h.out.2.2.1;rw[hs,m2]at hr;rw[m2];refine hr.app (λidx a ha hx=> .inr (hx.app (by obtain⟨op,ay,_⟩:=UT ha;exact TH ay) λm _ _ hj=> .inl ?_)) (λidx a _ ⟨op,ay,ye,_⟩ _=> .inr (.inr ⟨ic,?_,gM,.inr (.inl rfl)⟩))
  ·by_cases da:m=ic
   ·subst da;rw[hK]at hj;cases hj
   ·rw[ba _ _ da];exact hj
  ·obtain⟨e,_,rfl⟩:=TL ay;simp[Wz,ye]
end
end Go.Gg
