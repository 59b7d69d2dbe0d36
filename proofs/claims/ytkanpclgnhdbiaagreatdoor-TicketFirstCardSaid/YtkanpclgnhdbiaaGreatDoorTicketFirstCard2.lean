/- A part of the proof. -/
import Derived.Test.YtkanpclgnhdbiaaGreatDoorTicketFirstCard1
import Derived.Conc.Beside
import Derived.Conc.CrowdTrace
import Derived.Conc.CrowdComm
set_option linter.all false
set_option maxRecDepth 4000
set_option maxHeartbeats 4000000
open Array renaming getElem?_append_right->X9,getElem?_eq_getElem->SJ,getElem?_eq_some_iff->SR,getElem?_map->WI,getElem?_modify->Wn,getElem?_setIfInBounds_ne->SW,getElem?_setIfInBounds_self_of_lt->Tb,getElem_mem->XX,mem_append->Uw,size_append->XF
open Bool renaming false_eq_true->TR
open Classical renaming byContradiction->Tv
open Go renaming Addr->Va,Code->Ub,Deferred->U3,Event->Uu,FuncId->TS,Goroutine->SG,IntKind->T8,LoopState->ad_,MemOp->Wi,Operand->Tj,Program->SI,ResultVar->UT,Touch->YK,Trace->Up,Value->SQ,World->Tq
open Go.BinOp renaming neq->Wz
open Go.Conc renaming Deaf->U0,Deaf_other->avs,Knows->Wq,QuitsD->Y_,act?_of->aj',act?_old->X8,deaf_succ->af_,getElem?_append_cases->Xn,getElem?_stand->Yc,heard_old->Wu,knows_own->Zj,lt_of_act?->We,lt_size_of_getElem?->TN,mem_ofEvents->TQ,mem_of_getElem?->XW,ofEvent_cell0->asg,offersAt_of_not_blocked->U2,offersAt_ph->Zt,served->Ua,touch_mute->Z5,touch_of->U1,woken_run->Ym
open Go.Conc.QuitsD renaming status->ZO
open Go.ConcN renaming le_sumTo->WG,sumTo_congr->Vt
open Go.Event renaming mute->WK
open Go.GoStatus renaming blocked->avq
open Go.Goroutine renaming again->YZ
open Go.IntKind renaming i64->SD
open Go.MemAct renaming low_mono->Zq,ofEvent->Tt,touch?->Wj
open Go.MemAct.mark renaming injEq->am'
open Go.MemOp renaming ofEvents->Tc
open Go.Obj renaming deferred->avA
open Go.Op renaming equal->Xs
open Go.Proofs.Tryz renaming f107->al',f109->al_,f89->ap',f97->avk,prog->SA
open Go.Trace renaming g?->WE
open Go.Value renaming int->SF
open Go.World renaming cell?->UC,setCell->Xm
open Int renaming toNat->Yb
open List renaming append_assoc->SC,append_nil->SO,cons_append->Vp,drop->T5,drop_append->VA,drop_append_of_le_length->Wt,drop_drop->ap_,drop_eq_getElem_cons->TY,drop_eq_nil_of_le->T7,drop_zero->XD,ext_getElem?->Yp,flatMap_append->Un,flatMap_cons->T1,foldl->ag_,foldl_append->Ya,foldl_cons->UY,getD_eq_getElem?_getD->SE,getElem?_append_left->SY,getElem?_append_right->S_,getElem?_drop->Us,getElem?_eq_getElem->SX,getElem?_eq_some_iff->SN,getElem?_map->To,getElem?_set->UV,getElem?_set_ne->Uc,getElem?_set_self->Xd,getElem?_take->Uj,getElem_mem->Ww,getLastD_eq_getLast?->Vv,length_append->SL,length_drop->Ur,length_map->Ta,length_set->TJ,map->Vf,mapM_cons->Ue,mapM_nil->UH,map_append->Tn,map_congr_left->VF,map_cons->U5,map_drop->ak',map_flatMap->VE,map_map->WR,map_singleton->Zd,map_take->Wa,mem_append->SS,mem_append_left->Th,mem_append_right->S4,mem_cons->SK,mem_flatMap->S5,mem_flatten->XO,mem_iff_getElem?->UW,mem_map->Tm,mem_of_getElem?->S8,mem_of_mem_take->VQ,mem_or_eq_of_mem_set->UF,mem_replicate->XB,mem_singleton->S9,mem_toArray->TO,nil_append->UN,nodup_append->Vd,not_mem_nil->SZ,range->S0,range'->Ug,range'_append_1->Zb,range'_succ->VU,range_eq_range'->Vw,range_succ->U4,replicate->TM,replicate_succ->Wy,set_append_left->UX,set_append_right->Ud,set_cons_succ->UK,set_cons_zero->T9,set_eq_take_append_cons_drop->XQ,set_set->Xc,take->Uh,take_add_one->Uq,take_append_drop->Vr,take_append_of_le_length->TB,take_length->Tp,take_of_length_le->SV,take_set->ab_,take_succ->WC,take_succ_cons->VZ,take_take->U9,take_zero->Za
open List.Perm renaming refl->ag'
open Nat renaming add_sub_cancel->Wh,add_sub_cancel_left->TZ,add_zero->UJ,eq_zero_or_pos->UL,le_of_eq->WL,le_refl->SP,le_trans->TV,lt_of_lt_of_le->Te,lt_trans->Wr,reduceAdd->SU,strongRecOn->Yo,sub_self->Vl,sub_zero->Z8,zero_add->Wv
open Option renaming bind_eq_bind->TU,getD_some->S7,map_eq_some_iff->Ts,pure_def->Um,toList_some->YO
open Option.some renaming inj->Wb,injEq->Tl
open Prod.mk renaming injEq->U8
namespace Go.Gg
open Go.Conc Go.Proofs Go.Gg.Tk
theorem KB{α:Type}(g:Nat->List α)(i:Nat):(S0 (i+1)).flatMap g=(S0 i).flatMap g++g i:=by
 rw[U4,Un];simp
theorem KA{α:Type}(g:Nat->List α){i n:Nat}(h:i<n):(S0 n).flatMap g=(S0 i).flatMap g++(g i++(Ug (i+1) (n-(i+1))).flatMap g):=by
 have:S0 n=S0 i++(i::Ug (i+1) (n-(i+1))):=by
  rw[Vw,Vw,<- VU];have:=Zb (s:=0) (m:=i) (n:=n-(i+1)+1);rw[Wv]at this;rw[this];congr 1;omega
 rw[this,Un,T1]
theorem OQ{α:Type}{l:List α}{i:Nat}{v:α}(h:i<l.length):(l.set i v).take (i+1)=l.take i++[v]:=by
 rw[WC,ab_,UV,if_pos rfl,if_pos h,List.set_eq_of_length_le (by simp;omega)];rfl
namespace Tk
def jk (h:List Int)(hour j:Nat)(n:Int):List Int:=h.take hour++TM j n++h.drop (hour+j)
theorem F4{h:List Int}{hour j:Nat}{n:Int}(hj:hour+j<=h.length):(jk h hour j n).length=h.length:=by simp[jk];omega
theorem ajM(h:List Int)(hour:Nat)(n:Int):jk h hour 0 n=h:=by simp[jk]
theorem Kr{h:List Int}{hour j:Nat}{n:Int}(hj:hour+j<h.length):(jk h hour j n).set (hour+j) n=jk h hour (j+1) n:=by
 unfold jk;have hl:(h.take hour++TM j n).length=hour+j:=by simp;omega
 rw[Ud _ _ (by omega),hl,Vl,List.replicate_succ'];rw[TY hj,T9,SC,SC,SC];rfl
theorem ajL{h:List Int}{hour j:Nat}{n:Int}(hn:h[hour]?=some n)(hj:hour+j<=h.length):(jk h hour j n)[hour]?=some n:=by
 have hl:=eX hn;unfold jk;rw[SC,S_ (by simp;omega)];have:hour-(h.take hour).length=0:=by simp;omega
 rw[this];cases j with
 |zero=>simpa using hn
 |succ j=>simp[Wy]
theorem ajK{h pre:List Int}{hour:Nat}{n:Int}(h4:h.length=4)(hn:h[hour]?=some n)(hp:pre=h.take (hour+1)):jk h hour (4-hour) n=cO pre:=by
 have hl:=eX hn;have e:pre=h.take hour++[n]:=by rw[hp,WC,hn];rfl
 unfold jk cO;rw[T7 (by omega),SO,e];have h1:(h.take hour++[n]).length=hour+1:=by simp;omega
 rw[h1,show (h.take hour++[n]).getLastD 0=n by simp[Vv],SC];congr 1;rw[show 4-hour=(4-(hour+1))+1 by omega,Wy];rfl
theorem acK{h pre:List Int}{hour:Nat}{n:Int}(hn:h[hour]?=some n)(hp:pre=h.take (hour+1)):pre.length=hour+1/\pre.getLastD 0=n:=by
 have hl:=eX hn;have e:pre=h.take hour++[n]:=by rw[hp,WC,hn];rfl
 subst e;exact⟨by simp;omega,by simp[Vv]⟩
end Tk
open Go.Conc Go.Proofs Go.Gg.Tk
section
variable {lv:Bool}
def qL (yv:AV)(N ir it:Nat)(h:List Int):List aa:=[.cells [yv] 130,.cells (h.map iv) 83,.cells [.fn (.func 87) [] [.op ir 0,.op (N+1) 0]] 68,.cells [.fn (.func 89) [] [.op (N+2) 0,.op ir 0,.op (N+1) 0,.op N 0,.op it 0,.op (N+3) 0]] 68]
theorem ajx{x:ak}{bm N ir it:Nat}{yv pv:AV}{S:Type}{f:S->List Int->dG S}{Gf:S->List aa}{I:S->Prop}{A:List Int->Prop}(hx:x.Ok)(hY:j6 lv SA yv f Gf N I A pv)(hr:∀σ L,(Gf σ++L)[ir]?=some (.cells x.l 76))(ht:∀σ L,(Gf σ++L)[it]?=some (.cells [iv bm] 3))(mc:bm<=3):
  ∀(d hour:Nat)(h pre:List Int)(n0:Int)(σ:S)(M:List aa)(k kp:AV->List aa->Prop),d+hour=x.hours.toNat->h.length=4->h[hour]?=some n0->(0<=n0/\n0<=90+3* hour)->pre=h.take (hour+1)->I σ->(∀a∈nf x bm d pre,A a)->
   (∀h',h'.length=4->h'.take (hour+1)=pre->cZ Gf pv k kp (qL yv N ir it h'++M) (bG f (nf x bm d pre) σ))->
   bc lv SA 89 (Gf σ++(qL yv N ir it h++M)) [iv hour,.op (N+2) 0,.op ir 0,.op (N+1) 0,.op N 0,.op it 0,.op (N+3) 0] k kp:=by
 intro d;induction d with
 |zero=>
  intro hour h pre n0 σ M k kp pL h4 o0 hb hp hI hA hk;refine bD (rs:=[.tmp 8]) (nt:=61) ap' λhH u9=> ?_;simp only[bk,SU];obtain⟨dz,vw⟩:=acK o0 hp;have pO:hour<4:=by have:=eX o0;omega
  have yF:=hx.hours;have bS:x.l=[iv x.first,iv x.hours,iv x.am,dt x.seen,aT x.pieces,aT x.aC]:=rfl;have g0:∀(σ:S)(L:List aa),(Gf σ++L)[N]?=L[0]?:=λσ L=>hY.get σ L 0;have g1:∀(σ:S)(L:List aa),(Gf σ++L)[N+1]?=L[1]?:=λσ L=>hY.get σ L 1;have g2:∀(σ:S)(L:List aa),(Gf σ++L)[N+2]?=L[2]?:=λσ L=>hY.get σ L 2;have s1:∀(σ:S)(L:List aa) x,(Gf σ++L).set (N+1) x=Gf σ++L.set 1 x:=λσ L x=>hY.set σ L 1 x;rw[nf,dz,vw,Wh]at hA hk;refine aj ?_;refine ah ?_;simp only[seval,g2,qL];refine aH ((Rj (x:=x) (h:=h) (n:=n0) hx h4 o0 (hr _ _) (by rw[g1];rfl) ?_));(try simp only[seval]);refine aD ?_;refine⟨λhs=> ?_,λhs=> ?_⟩
  ·refine aj ?_;refine aZ ?_;have:=hk h h4 hp.symm;rw[hs]at this;simp only[TR,if_false,bG,cZ]at this;exact b8 this
  ·rw[if_pos hs]at hA hk;rw[Oo]at hk;have hhe:(hour:Int)=x.hours:=(by omega);refine aK ?_;refine ah ?_;simp only[seval,hr,bS];refine aD ?_;refine⟨λhc=> ?_,λhc=>by exfalso;simp at hc;omega⟩;refine aj ?_;refine bU ?_;refine eI (4-hour) (λj:Nat=>[(9,iv ((hour+j:Nat):Int))]) (λj=>Gf σ++(qL yv N ir it (jk h hour j n0)++M)) (λj=>True) (λ_ _=>rfl) (by simp only[seval];simp[a_,Wk.refl]) (by rw[ajM];rfl) (λm _ _=>by simp[qL]) trivial (λbC bW j mE hj R hR=> ?_);refine aj ?_;refine aD ?_;refine⟨λhc=> ?_,λhc=> ?_⟩
   ·have dP:j<4-hour:=(by omega);have bb:(0<=(hour:Int)/\(hour:Int)<4)=True:=(by simp;omega);have bj:(0<=(hour:Int)+(j:Int)/\(hour:Int)+(j:Int)<4)=True:=(by simp;omega);have yM:((hour:Int)+(j:Int)).toNat=hour+j:=(by omega);have mC:(jk h hour j n0).length=4:=(by rw[F4 (by omega),h4]);have mD:(Vf iv (jk h hour j n0)).length=4:=(by rw[Ta,mC]);have hw:SD.wrap ((hour:Int)+(j:Int)+1)=(hour:Int)+((j+1:Nat):Int):=(by rw[br _ (by omega)];push_cast;omega);refine aK ?_;refine ah ?_;simp only[seval,g1,s1,qL,bb,bj,yM,mD,lw (ajL o0 (show hour+j<=h.length by omega))];refine⟨by omega,?_⟩;rw[xu (by omega),Kr (by omega)];refine ah ?_;simp only[seval,hw];exact hR _ ⟨dP,trivial,cz⟩
   ·have:j=4-hour:=(by omega);subst this;have G0:=ajK h4 o0 hp;rw[G0];have GZ:(cO pre).length=4:=(by rw[<- G0,F4 (by omega),h4]);have tX:((cO pre).map iv).length=4:=(by rw[Ta,GZ]);have mH:(cO pre).take (hour+1)=pre:=(by unfold cO;rw[TB (by omega),SV (by omega)]);refine bR ?_;refine ah ?_;simp only[seval,g0,g1,qL,tX];rw[SV (i:=4) (l:=(cO pre).map iv) (by rw[tX];exact SP _)];refine xZ (hY.call σ (cO pre) (qL yv N ir it (cO pre)++M) _ _ hI (hA _ (by simp)) ?_);have aJ:=hk (cO pre) GZ mH;cases hf:f σ (cO pre)with
    |go σ'=>
     rw[hf]at aJ;simp only[cZ]at aJ⊢;(try simp only[seval]);refine aZ ?_;exact b8 aJ
    |stop σ'=>
     rw[hf]at aJ;simp only[cZ]at aJ⊢;(try simp only[seval]);refine aZ ?_;exact b8 aJ
    |bad σ'=>
     rw[hf]at aJ;simp only[cZ]at aJ⊢;exact b8 aJ
 |succ d ih=>
  intro hour h pre n0 σ M k kp pL h4 o0 hb hp hI hA hk;refine bD (rs:=[.tmp 8]) (nt:=61) ap' λhH u9=> ?_;simp only[bk,SU];obtain⟨dz,vw⟩:=acK o0 hp;have yF:=hx.hours;have G4:=hx.am;have hh3:hour<3:=by omega
  have bS:x.l=[iv x.first,iv x.hours,iv x.am,dt x.seen,aT x.pieces,aT x.aC]:=rfl;have g1:∀(σ:S)(L:List aa),(Gf σ++L)[N+1]?=L[1]?:=λσ L=>hY.get σ L 1;have g2:∀(σ:S)(L:List aa),(Gf σ++L)[N+2]?=L[2]?:=λσ L=>hY.get σ L 2;have g3:∀(σ:S)(L:List aa),(Gf σ++L)[N+3]?=L[3]?:=λσ L=>hY.get σ L 3;have s1:∀(σ:S)(L:List aa) x,(Gf σ++L).set (N+1) x=Gf σ++L.set 1 x:=λσ L x=>hY.set σ L 1 x;rw[nf,dz,vw,Wh]at hA hk;refine aj ?_;refine ah ?_;simp only[seval,g2,qL];refine aH ((Rj (x:=x) (h:=h) (n:=n0) hx h4 o0 (hr _ _) (by rw[g1];rfl) ?_));(try simp only[seval]);refine aD ?_;refine⟨λhs=> ?_,λhs=> ?_⟩
  ·refine aj ?_;refine aZ ?_;have:=hk h h4 hp.symm;rw[hs]at this;simp only[TR,if_false,bG,cZ]at this;exact b8 this
  ·rw[if_pos hs]at hA hk;have hhe:¬(hour:Int)=x.hours:=(by omega);refine aK ?_;refine ah ?_;simp only[seval,hr,bS];refine aD ?_;refine⟨λhc=>by exfalso;exact hhe hc,λhc=> ?_⟩;refine aK ?_;refine ah ?_;simp only[seval,hr,bS,br (x.am+1) (by omega)];generalize hg:(λn:Nat=>if hour+1=1/\n≠bm then[]else nf x bm d (pre++[n0+(n:Int)]))=g at hA hk;refine bU ?_;refine z9 (measure λm:Nat×S×List Int=>(x.am.toNat+1)-m.1).wf (λm=>[(37,iv (m.1:Nat))]) (λm=>Gf m.2.1++(qL yv N ir it m.2.2++M)) (λm=>m.1<=x.am.toNat+1/\bG f ((S0 m.1).flatMap g) σ=.go m.2.1/\m.2.2.length=4/\m.2.2.take (hour+1)=pre) (0,σ,h) (λ_ _=>rfl) (by intro p hp;simp at hp;subst hp;exact⟨_,rfl,Wk.refl _⟩) rfl (λ_ _=>by simp[qL,hY.len]) ⟨by omega,rfl,h4,hp.symm⟩ (λbC bW m aq R hR=> ?_);obtain⟨i,τ,hq⟩:=m;obtain⟨hi,bL,AZ,A0⟩:=aq;replace hi:i<=x.am.toNat+1:=hi;replace bL:bG f ((S0 i).flatMap g) σ=.go τ:=bL;replace AZ:hq.length=4:=AZ;replace A0:hq.take (hour+1)=pre:=A0;have vC:hq[hour]?=some n0:=by
    have h1:(hq.take (hour+1))[hour]?=some n0:=(by rw[A0,hp,Uj,if_pos (by omega)];exact o0);rwa [Uj,if_pos (by omega)]at h1
   refine aj ?_;refine aD ?_;refine⟨λhc=> ?_,λhc=> ?_⟩
   ·have bx:i<x.am.toNat+1:=(by omega);have bJ:SD.wrap ((i:Int)+1)=((i+1:Nat):Int):=(by rw[br _ (by omega)];rfl);have si:=KA g bx;have p7:=KB g i;have CU:I τ:=Bv (A:=A) hY.inv _ σ τ (λa ha=>hA a (by rw[si];exact Th _ ha)) hI bL;refine aK ?_;refine aj ?_;have hqm:(Vf iv hq).length=4:=(by rw[Ta,AZ]);have bb:(0<=(hour:Int)/\(hour:Int)<4)=True:=(by simp;omega);have bb1:(0<=(hour:Int)+1/\(hour:Int)+1<4)=True:=(by simp;omega);have pU:((hour:Int)+1).toNat=hour+1:=(by omega);have hwh:SD.wrap ((hour:Int)+1)=(hour:Int)+1:=br _ (by omega);have MM:SD.wrap (n0+(i:Int))=n0+(i:Int):=br _ (by omega);refine ah ?_;simp only[seval,ht];refine yk (λh2=> ?ga) (λh2=> ?gb)
    case' ga=>
     (try simp only[seval,ht]);refine aD ?_;refine⟨λh3=> ?gc,λh3=> ?gd⟩
     case gc=>
      have aN:g i=[]:=(by rw[<- hg];exact if_pos ⟨by simp at h2;omega,by omega⟩);refine bR ?_;refine ah ?_;simp only[seval,bJ];exact hR _ ⟨(i+1,τ,hq),(by show x.am.toNat+1-(i+1)<x.am.toNat+1-i;omega),⟨by omega,by rw[p7,aN,SO];exact bL,AZ,A0⟩,cz⟩
    case' gb=>
     (try simp only[seval]);refine aD ?_
    all_goals
     have aN:g i=nf x bm d (pre++[n0+(i:Int)]):=by
      rw[<- hg];refine if_neg ?_
      rintro⟨q1,q2⟩
      first|(simp at h3;omega)|(simp at h2;omega)
     refine aK ?_;refine ah ?_;simp only[seval,g1,s1,qL,bb,bb1,pU,hwh,MM,hqm,lw vC];refine⟨by omega,?_⟩;rw[xu (show hour+1<hq.length by omega)];refine ah ?_;simp only[seval,g3,hwh];have al8:(hq.set (hour+1) (n0+(i:Int))).length=4:=(by rw[TJ,AZ]);have hqt:pre++[n0+(i:Int)]=(hq.set (hour+1) (n0+(i:Int))).take (hour+1+1):=(by rw[OQ (by omega),A0]);refine aH ((ih (hour+1) (hq.set (hour+1) (n0+(i:Int))) (pre++[n0+(i:Int)]) (n0+(i:Int)) τ M _ _ (by omega) al8 (by rw[UV,if_pos rfl,if_pos (by omega)]) (by omega) hqt CU (λa ha=>hA a (by rw[si,aN];exact S4 _ (Th _ ha))) (λh' rR al7=> ?_)));have Mh:h'.take (hour+1)=pre:=by
      have e:h'.take (hour+1)=(h'.take (hour+1+1)).take (hour+1):=(by rw[U9];congr 1;omega);rw[e,al7,TB (WL dz.symm),SV (WL dz)]
     have A7:bG f ((S0 (x.am.toNat+1)).flatMap g) σ=match bG f (g i) τ with
       |.go s'=>bG f ((Ug (i+1) (x.am.toNat+1-(i+1))).flatMap g) s'
       |r=>r:=by
      rw[si,rh,bL];exact rh f (g i) _ τ
     rw[<- aN];cases hf:bG f (g i) τ with
     |go τ'=>
      simp only[cZ];(try simp only[seval]);refine aD ?_;refine aK ?_;refine ah ?_;simp only[seval,bJ];exact hR _ ⟨(i+1,τ',h'),(by show x.am.toNat+1-(i+1)<x.am.toNat+1-i;omega),⟨by omega,by rw[p7,rh,bL];exact hf,rR,Mh⟩,cz⟩
     |stop τ'=>
      simp only[cZ];(try simp only[seval]);refine aD ?_;refine aj ?_;refine aZ ?_;have aJ:=hk h' rR Mh;rw[A7,hf]at aJ;exact b8 aJ
     |bad τ'=>
      simp only[cZ];have aJ:=hk h' rR Mh;rw[A7,hf]at aJ;exact b8 aJ
   ·have dD:i=x.am.toNat+1:=(by omega);subst dD;have aJ:=hk hq AZ A0;rw[bL]at aJ;refine bR ?_;refine aj ?_;refine aZ ?_;exact b8 aJ
theorem vZ{P:SI}{yv pv:AV}{S:Type}{f:S->List Int->dG S}{Gf:S->List aa}{N:Nat}{I:S->Prop}{A:List Int->Prop}{k:AV->List aa->Prop}(hY:j6 lv P yv f Gf N I A pv){σ σ':S}{L:List aa}{a:AV}(hH:bF (Gf σ))(ha:∀n,Lt n a)(hk:k a (Gf σ')):cJ (Gf σ).length (Gf σ'++L) a k:=by
 refine jI (H':=Gf σ') (Wk.refl _) rfl (by rw[hY.len,hY.len];exact SP _) ?_ (ha _) hk;have:=hY.aq (σ:=σ) (M:=[]) (by simpa using hH) σ';simpa using this
theorem Kj{H:List aa}{k kp:AV->List aa->Prop}{x:ak}{n:Int}(hk:k (.fn (.func 86) [] [.op H.length 0,.op (H.length+1) 0]) (H++[.cells x.l 76,.cells [iv n] 3])):bc lv SA 64 H [x.av,iv n] k kp:=by
 refine bD (rs:=[.tmp 4]) (nt:=6) Tryz.f64 λhH hA=> ?_;simp only[bk,SU,ak.av];refine aj ?_;refine ah ?_;simp only[seval,Ue,UH,Um,TU];refine aZ ?_;exact b8 hk
theorem Km{x:ak}{bm N ir it:Nat}{yv pv:AV}{S:Type}{f:S->List Int->dG S}{Gf:S->List aa}{I:S->Prop}{A:List Int->Prop}{σ:S}{k kp:AV->List aa->Prop}(hx:x.Ok)(hY:j6 lv SA yv f Gf N I A pv)(hr:∀σ L,(Gf σ++L)[ir]?=some (.cells x.l 76))(ht:∀σ L,(Gf σ++L)[it]?=some (.cells [iv bm] 3))(mc:bm<=3)
  (mI:∀n,Lt n pv) (hI:I σ) (hA:∀a∈kU x bm,A a) (hk:gk Gf pv k kp [] (bG f (kU x bm) σ)):bc lv SA 86 (Gf σ) [yv,.op ir 0,.op it 0] k kp:=by
 refine bD (rs:=[]) (nt:=15) Tryz.f86 λhH u9=> ?_;simp only[bk,SU];have hN:=hY.len σ;have bS:x.l=[iv x.first,iv x.hours,iv x.am,dt x.seen,aT x.pieces,aT x.aC]:=rfl;refine ah ?_;simp only[seval,hY.parts];refine aj ?_;refine ah ?_;simp only[seval,Ue,UH,Um,TU];refine aj ?_;refine ah ?_;simp only[seval,Ue,UH,Um,TU];refine ah ?_;simp only[seval,hr,bS];refine aj ?_;have h0:=hx.first;have hh:=hx.hours;have Mg:[x.first]=Uh (0+1) [x.first,0,0,0]:=rfl;refine aH (?_);rw[hN];refine ajx (x:=x) (bm:=bm) hx hY hr ht mc x.hours.toNat 0 [x.first,0,0,0] [x.first] x.first σ [] _ _ rfl rfl rfl (by omega) Mg hI hA (λh' rR AX=> ?_);change cZ Gf pv _ _ _ (bG f (kU x bm) σ);have sx:∀n,Lt n (.aO []):=λn=>by simp[jV]
 cases hf:bG f (kU x bm) σ with
 |go s=>
  rw[hf]at hk;simp only[cZ,gk]at hk⊢;rw[SO]at hk;(try simp only[seval]);rw[<- hN];exact vZ hY hH sx hk
 |stop s=>
  rw[hf]at hk;simp only[cZ,gk]at hk⊢;rw[SO]at hk;(try simp only[seval]);rw[<- hN];exact vZ hY hH sx hk
 |bad s=>
  rw[hf]at hk;simp only[cZ,gk]at hk⊢;rw[SO]at hk;rw[<- hN];exact vZ hY hH mI hk
end
theorem QK{α:Type}{l:List α}{i j:Nat}{v:α}(h:i<j):(l.set i v).drop j=l.drop j:=by
 apply Yp;intro k;rw[Us,Us,Uc (by omega)]
theorem Aj{α:Type}{g:α->AV}{xs:List α}{i:Nat}{x:α}(h:xs[i]?=some x):(xs.map g).drop i=g x::(xs.drop (i+1)).map g:=by
 rw[<- ak',wE h,U5]
namespace Tk
def ad3 (k:Nat):List Int:=TM (4-k) (-1)++[-1, -1, -1]
structure pw (h:List Int)(k p:Nat)(t:List Nat)(tc:List Int):Prop where
 len:tc.length=11
 pre:tc.take (4+p)=h++t.map λn:Nat=>(n:Int)
 tl:tc.drop (4+k)=ad3 k
theorem pw.all{h:List Int}{k:Nat}{t:List Nat}{tc:List Int}(ht:t.length=k)(n:pw h k k t tc):tc=dZ h t:=by
 have:=Vr (4+k) tc;rw[n.pre,n.tl]at this;rw[<- this];unfold dZ lP ad3;rw[ht];simp[SC]
theorem pw.back{h:List Int}{k p:Nat}{t:List Nat}{n:Nat}{tc:List Int}(h4:h.length=4)(ht:t.length=p)(q:pw h k (p+1) (t++[n]) tc):pw h k p t tc:=by
 refine⟨q.len,?_,q.tl⟩;have e:tc.take (4+p)=(tc.take (4+(p+1))).take (4+p):=by rw[U9];congr 1;omega
 rw[e,q.pre,Tn,<- SC,TB (by simp[h4,ht]),SV (by simp[h4,ht])]
theorem pw.next{h:List Int}{k p:Nat}{t:List Nat}{n:Nat}{tc:List Int}(hp:p<k)(hk:k<=4)(q:pw h k p t tc):pw h k (p+1) (t++[n]) (tc.set (4+p) (n:Int)):=by
 refine⟨by rw[TJ];exact q.len,?_,?_⟩
 ·rw[show 4+(p+1)=(4+p)+1 by omega,OQ (by rw[q.len];omega),q.pre];simp
 ·rw[QK (by omega)];exact q.tl
theorem aoJ{h:List Int}{q:Nat}{qs:List Nat}{u:Nat}{t:List Nat}:(k_ (q::qs) u t).map (dZ h)=(S0 9).flatMap λn=>if u.testBit n|| !q.testBit n then[]else(k_ qs (u|||2^n) (t++[n])).map (dZ h):=by
 rw[k_,VE];congr 1;funext n;split<;>rfl
end Tk
section
variable {lv:Bool}
def uo (yv:AV)(N ir:Nat)(ps:List Nat)(tc:List Int):List aa:=[.cells [yv] 132,.cells (tc.map iv) 86,.cells (ps.map λn=>wv n) 80,.cells [.fn (.func 107) [] [.op ir 0,.op N 0,.op (N+1) 0,.op (N+2) 0,.op (N+3) 0]] 157]
theorem aiH{x:ak}{h ps N ir:_}{yv pv:AV}{S:Type}{f:S->List Int->dG S}{Gf:S->List aa}{I:S->Prop}{A:List Int->Prop}(hx:x.Ok)(h4:h.length=4)(hY:j6 lv SA yv f Gf N I A pv)(hr:∀σ L,(Gf σ++L)[ir]?=some (.cells x.l 76))(o1:ps=x.pieces.map (cm h)++TM (4-x.pieces.length) 0):
  ∀(d p u:Nat)(t:List Nat)(tc:List Int)(σ:S)(M:List aa)(k kp:AV->List aa->Prop),d+p=x.pieces.length->u<65536->t.length=p->pw h x.pieces.length p t tc->I σ->(∀a∈(k_ ((x.pieces.map (cm h)).drop p) u t).map (dZ h),A a)->
   (∀eA,pw h x.pieces.length p t eA->cZ Gf pv k kp (uo yv N ir ps eA++M) (bG f ((k_ ((x.pieces.map (cm h)).drop p) u t).map (dZ h)) σ))->
   bc lv SA 107 (Gf σ++(uo yv N ir ps tc++M)) [iv p,wv u,.op ir 0,.op N 0,.op (N+1) 0,.op (N+2) 0,.op (N+3) 0] k kp:=by
 intro d;induction d with
 |zero=>
  intro p u t tc σ M k kp Ll hu ht hT hI hA hk;refine bD (rs:=[.tmp 9]) (nt:=47) al' λhH u9=> ?_;simp only[bk,SU];have bS:x.l=[iv x.first,iv x.hours,iv x.am,dt x.seen,aT x.pieces,aT x.aC]:=rfl;have g0:∀(σ:S)(L:List aa),(Gf σ++L)[N]?=L[0]?:=λσ L=>hY.get σ L 0;have g1:∀(σ:S)(L:List aa),(Gf σ++L)[N+1]?=L[1]?:=λσ L=>hY.get σ L 1;have dz:p=x.pieces.length:=by omega
  have wS:(x.pieces.map (cm h)).drop p=[]:=T7 (by simp;omega);rw[wS,k_]at hA hk;rw[Zd]at hA hk;rw[Oo]at hk;have yU:tc=dZ h t:=by subst dz;exact hT.all ht
  have kC:(tc.map iv).length=11:=by rw[Ta,hT.len]
  refine aj ?_;(repeat apply gp);refine PS ?_;refine ah ?_;simp only[seval,hr,bS,aT];refine aD ?_;refine⟨λhc=> ?_,λhc=>by exfalso;simp at hc;omega⟩;refine ah ?_;simp only[seval,g0,g1,uo,kC];rw[SV (i:=11) (l:=tc.map iv) (by rw[kC];exact SP _)];rw[<- yU]at hA hk;have aJ:=hk tc hT;refine xZ (hY.call σ tc (uo yv N ir ps tc++M) _ _ hI (hA _ (by simp)) ?_);cases hf:f σ tc with
  |go σ'=>
   rw[hf]at aJ;simp only[cZ]at aJ⊢;(try simp only[seval]);refine aZ ?_;exact b8 aJ
  |stop σ'=>
   rw[hf]at aJ;simp only[cZ]at aJ⊢;(try simp only[seval]);refine aZ ?_;exact b8 aJ
  |bad σ'=>
   rw[hf]at aJ;simp only[cZ]at aJ⊢;exact b8 aJ
 |succ d ih=>
  intro p u t tc σ M k kp Ll hu ht hT hI hA hk;refine bD (rs:=[.tmp 9]) (nt:=47) al' λhH u9=> ?_;simp only[bk,SU];have bS:x.l=[iv x.first,iv x.hours,iv x.am,dt x.seen,aT x.pieces,aT x.aC]:=rfl;have g1:∀(σ:S)(L:List aa),(Gf σ++L)[N+1]?=L[1]?:=λσ L=>hY.get σ L 1;have g2:∀(σ:S)(L:List aa),(Gf σ++L)[N+2]?=L[2]?:=λσ L=>hY.get σ L 2;have g3:∀(σ:S)(L:List aa),(Gf σ++L)[N+3]?=L[3]?:=λσ L=>hY.get σ L 3;have s1:∀(σ:S)(L:List aa) x,(Gf σ++L).set (N+1) x=Gf σ++L.set 1 x:=λσ L x=>hY.set σ L 1 x;have n9:=hx.ey;have GZ:p<4:=by omega
  obtain⟨y,hy⟩:=bK (xs:=x.pieces) (i:=p) (by omega);have vJ:(x.pieces.map (cm h))[p]?=some (cm h y):=by rw[To,hy];rfl
  have iM:ps[p]?=some (cm h y):=by rw[o1,SY (by simp;omega)];exact vJ
  have ie:cm h y<65536:=Wr (Rr h y) (by decide);have aG:¬(p:Int)=(x.pieces.length:Int):=by omega
  rw[wE vJ,aoJ]at hA hk;generalize hg:(λn=>if u.testBit n|| !(cm h y).testBit n then[]else(k_ ((x.pieces.map (cm h)).drop (p+1)) (u|||2^n) (t++[n])).map (dZ h))=g at hA hk;refine aj ?_;(repeat apply gp);refine PS ?_;refine ah ?_;simp only[seval,hr,bS,aT];refine aD ?_;refine⟨λhc=>by exfalso;exact aG (by simpa using hc),λhc=> ?_⟩;refine aK ?_;(repeat apply gp);refine PN ?_;simp only[seval];refine aj ?_;refine bU ?_;refine z9 (measure λm:Nat×S×List Int=>9-m.1).wf (λm=>[(20,iv (m.1:Nat))]) (λm=>Gf m.2.1++(uo yv N ir ps m.2.2++M)) (λm=>m.1<=9/\bG f ((S0 m.1).flatMap g) σ=.go m.2.1/\pw h x.pieces.length p t m.2.2) (0,σ,tc) (λ_ _=>rfl) (by intro p hp;simp at hp;subst hp;exact⟨_,rfl,Wk.refl _⟩) rfl (λ_ _=>by simp[uo,hY.len]) ⟨by omega,rfl,hT⟩ (λbC bW m aq R hR=> ?_);obtain⟨i,τ,tq⟩:=m;obtain⟨hi,bL,lX⟩:=aq;replace hi:i<=9:=hi;replace bL:bG f ((S0 i).flatMap g) σ=.go τ:=bL;replace lX:pw h x.pieces.length p t tq:=lX;refine aj ?_;refine aD ?_;refine⟨λhc=> ?_,λhc=> ?_⟩
  ·have bx:i<9:=(by omega);have bJ:SD.wrap ((i:Int)+1)=((i+1:Nat):Int):=(by rw[br _ (by omega)];rfl);have si:=KA g bx;have p7:=KB g i;have CU:I τ:=Bv (A:=A) hY.inv _ σ τ (λa ha=>hA a (by rw[si];exact Th _ ha)) hI bL;have b4:(0<=(p:Int)/\(p:Int)<4)=True:=(by simp;omega);have EK:(u.testBit i|| !(cm h y).testBit i)=true->g i=[]:=λe=>(by rw[<- hg];exact if_pos e);have KI:(u.testBit i|| !(cm h y).testBit i)=false->g i=(k_ ((x.pieces.map (cm h)).drop (p+1)) (u|||2^i) (t++[i])).map (dZ h):=λe=>(by rw[<- hg];exact if_neg (by rw[e];simp));refine aK ?_;refine aj ?_;refine ah ?_;simp only[seval,g2,uo,b4,Aj iM];refine aH ((yc hu ?_));(try simp only[seval,g2,uo,b4,Aj iM]);refine yk (λh2=> ?_) (λh2=> ?_)
   ·(try simp only[seval,g2,uo,b4,Aj iM]);refine aH ((yc ie ?_));(try simp only[seval]);refine aD ?_;refine⟨λh3=> ?_,λh3=> ?_⟩
    ·have aN:=EK (by rw[h2];simpa using h3);refine bR ?_;refine ah ?_;simp only[seval,bJ];exact hR _ ⟨(i+1,τ,tq),(by show 9-(i+1)<9-i;omega),⟨by omega,by rw[p7,aN,SO];exact bL,lX⟩,cz⟩
    ·have aN:=KI (by rw[h2];simpa using h3);have kC:(tq.map iv).length=11:=(by rw[Ta,lX.len]);have Ju:4+p<tq.length:=(by rw[lX.len];omega);have A9:SD.wrap ((p:Int)+1)=((p+1:Nat):Int):=(by rw[br _ (by omega)];rfl);refine aK ?_;refine ah ?_;simp only[seval,g1,s1,uo,b4];refine⟨by omega,?_⟩;rw[xu Ju];refine eO 6 ?_;simp only[seval,g3,A9];refine ij (wv (u|||2^i)) (cC (u5 hu (show i<16 by omega) ⟨rfl,rfl⟩)) ?_;rw[A9];have mf:u|||2^i<65536:=qh hu (xz (by omega));refine aH ((ih (p+1) (u|||2^i) (t++[i]) (tq.set (4+p) (i:Int)) τ M _ _ (by omega) mf (by simp[ht]) (lX.next (by omega) n9) CU (λa ha=>hA a (by rw[si,aN];exact S4 _ (Th _ ha))) (λeA tF=> ?_)));have CZ:=tF.back h4 ht;have A7:bG f ((S0 9).flatMap g) σ=match bG f (g i) τ with
       |.go s'=>bG f ((Ug (i+1) (9-(i+1))).flatMap g) s'
       |r=>r:=by
      rw[si,rh,bL];exact rh f (g i) _ τ
     rw[<- aN];have aJ:=hk eA CZ;rw[A7]at aJ;cases hf:bG f (g i) τ with
     |go τ'=>
      simp only[cZ];(try simp only[seval]);refine aD ?_;refine aK ?_;refine ah ?_;simp only[seval,bJ];exact hR _ ⟨(i+1,τ',eA),(by show 9-(i+1)<9-i;omega),⟨by omega,by rw[p7,rh,bL];exact hf,CZ⟩,cz⟩
     |stop τ'=>
      rw[hf]at aJ;simp only[cZ]at aJ⊢;(try simp only[seval]);refine aD ?_;refine aj ?_;refine aZ ?_;exact b8 aJ
     |bad τ'=>
      rw[hf]at aJ;simp only[cZ]at aJ⊢;exact b8 aJ
   ·(try simp only[seval]);refine aD ?_;have aN:=EK (by rw[show u.testBit i=true by simpa using h2];rfl);refine bR ?_;refine ah ?_;simp only[seval,bJ];exact hR _ ⟨(i+1,τ,tq),(by show 9-(i+1)<9-i;omega),⟨by omega,by rw[p7,aN,SO];exact bL,lX⟩,cz⟩
  ·have dD:i=9:=(by omega);subst dD;have aJ:=hk tq lX;rw[bL]at aJ;refine bR ?_;refine aj ?_;refine aZ ?_;exact b8 aJ
end
open Go.Conc Go.Proofs Go.Gg.Tk
theorem Oz{α:Type}{g:α->AV}{xs:List α}{i:Nat}{y:α}(h:i<xs.length):(xs.map g).take i++[g y]++(xs.map g).drop (i+1)=(xs.set i y).map g:=by
 rw[List.map_set,XQ,if_pos (by simpa using h)];simp
namespace Tk
def qy (l:List Nat)(i:Nat):List Nat:=l.take i++TM (4-i) 0
theorem agV{l:List Nat}{i q:Nat}(h:l[i]?=some q)(hl:l.length<=4):(qy l i).set i q=qy l (i+1):=by
 have hi:=eX h;unfold qy;rw[Ud _ _ (by simp;omega),show i-(l.take i).length=0 by simp;omega,show 4-i=(4-(i+1))+1 by omega,Wy,T9,WC,h];simp
theorem agU{l:List Nat}{i:Nat}(hi:i<=l.length)(hl:l.length<=4):(qy l i).length=4:=by simp[qy];omega
theorem agT{l:List Nat}:qy l l.length=l++TM (4-l.length) 0:=by simp[qy]
end Tk
theorem aaP{H L:List aa}{c c':aa}(h:bF (H++(L++[c])))(hc:∀n,e_ n c'):bF (H++(L++[c'])):=λz hz=>by
 have hl:(H++(L++[c'])).length=(H++(L++[c])).length:=by simp
 rw[hl];rcases SS.1 hz with h'|h'
 ·exact h z (Th _ h')
 ·rcases SS.1 h' with h'|h'
  ·exact h z (S4 _ (Th _ h'))
  ·rw[S9.1 h'];exact hc _
theorem acu(l:List Nat)(t n:Nat):e_ n (.cells (l.map λn=>wv n) t):=by
 intro a ha;obtain⟨x,_,rfl⟩:=Tm.1 ha;exact .val _
theorem aoX(l:List Int)(t n:Nat):e_ n (.cells (l.map iv) t):=by
 intro a ha;obtain⟨x,_,rfl⟩:=Tm.1 ha;exact .val _
section
variable {lv:Bool}
theorem ajy{H:List aa}{k kp:AV->List aa->Prop}{x:ak}{h:List Int}(hk:k (.fn (.func 106) [] [.op (H.length+1) 0,.op H.length 0]) (H++[.cells x.l 76,.cells (h.map iv) 83])):bc lv SA 92 H [x.av,.agg (h.map iv)] k kp:=by
 refine bD (rs:=[.tmp 4]) (nt:=6) Tryz.f92 λhH hA=> ?_;simp only[bk,SU,ak.av];refine aj ?_;refine ah ?_;simp only[seval,Ue,UH,Um,TU];refine aZ ?_;exact b8 hk
theorem aiG{x:ak}{h:List Int}{N ir ih:Nat}{yv pv:AV}{S:Type}{f:S->List Int->dG S}{Gf:S->List aa}{I:S->Prop}{A:List Int->Prop}{σ:S}{k kp:AV->List aa->Prop}(hx:x.Ok)(hh:mX h)(hY:j6 lv SA yv f Gf N I A pv)(hr:∀σ L,(Gf σ++L)[ir]?=some (.cells x.l 76))(hi:∀σ L,(Gf σ++L)[ih]?=some (.cells (h.map iv) 83))
  (mI:∀n,Lt n pv) (hI:I σ) (hA:∀a∈(gg x h).map (dZ h),A a) (hk:gk Gf pv k kp [] (bG f ((gg x h).map (dZ h)) σ)):bc lv SA 106 (Gf σ) [yv,.op ih 0,.op ir 0] k kp:=by
 refine bD (rs:=[]) (nt:=45) Tryz.f106 λhH u9=> ?_;simp only[bk,SU];have hN:=hY.len σ;have n9:=hx.ey;have bS:x.l=[iv x.first,iv x.hours,iv x.am,dt x.seen,aT x.pieces,aT x.aC]:=rfl;obtain⟨a,b,c,d,rfl,ha,hb,hc,hd,hs⟩:=hh.out;have okH:∀L:List aa,(∀z∈L,∀n,e_ n z)->bF (Gf σ++L):=λL hL z hz=>by
  rcases SS.1 hz with h|h
  ·exact(hH z h).mono (by simp)
  ·exact hL z h _
 refine ah ?_;simp only[seval,hY.parts];refine ah ?_;simp only[seval,hi];refine aj ?_;refine bU ?_;refine eI 4 (λi:Nat=>[(13,iv i)]) (λi=>Gf σ++[.cells [yv] 132,.cells ((jk [a,b,c,d,0,0,0,0,0,0,0] 4 i (-1)).map iv) 86]) (λi=>True) (λ_ _=>rfl) (by simp only[seval];simp[a_,Wk.refl]) rfl (λ_ _ _=>by simp) trivial (λbC bW i cK _ R hR=> ?_);refine aj ?_;refine aD ?_;refine⟨λhc=> ?_,λhc=> ?_⟩
 ·have bx:i<4:=by omega
  have b4:(0<=(i:Int)/\(i:Int)<4)=True:=by simp;omega
  have bJ:SD.wrap ((i:Int)+1)=((i+1:Nat):Int):=by rw[br _ (by omega)];rfl
  have mC:(jk [a,b,c,d,0,0,0,0,0,0,0] 4 i (-1)).length=11:=F4 (by show 4+i<=11;omega);have mD:((jk [a,b,c,d,0,0,0,0,0,0,0] 4 i (-1)).map iv).length=11:=by rw[Ta,mC]
  refine aK ?_;refine aj ?_;refine ah ?_;simp only[seval,b4,mD];refine⟨by omega,?_⟩;rw[xu (show 4+i<(jk [a,b,c,d,0,0,0,0,0,0,0] 4 i (-1)).length by omega),Kr (by show 4+i<11;omega)];refine ah ?_;simp only[seval,bJ];exact hR _ ⟨bx,trivial,cz⟩
 have:i=4:=by omega
 subst this;clear hc cK;refine bR ?_;refine aj ?_;rw[show jk [a,b,c,d,0,0,0,0,0,0,0] 4 4 (-1)=[a,b,c,d, -1, -1, -1, -1,0,0,0]from rfl];refine bU ?_;refine eI 3 (λi:Nat=>[(20,iv i)]) (λi=>Gf σ++[.cells [yv] 132,.cells ((jk [a,b,c,d, -1, -1, -1, -1,0,0,0] 8 i (-1)).map iv) 86]) (λi=>True) (λ_ _=>rfl) (by simp only[seval];simp[a_,Wk.refl]) rfl (λ_ _ _=>by simp) trivial (λbC bW i cK _ R hR=> ?_);refine aj ?_;refine aD ?_;refine⟨λhc=> ?_,λhc=> ?_⟩
 ·have bx:i<3:=by omega
  have b4:(0<=(i:Int)/\(i:Int)<3)=True:=by simp;omega
  have bJ:SD.wrap ((i:Int)+1)=((i+1:Nat):Int):=by rw[br _ (by omega)];rfl
  have mC:(jk [a,b,c,d, -1, -1, -1, -1,0,0,0] 8 i (-1)).length=11:=F4 (by show 8+i<=11;omega);have mD:((jk [a,b,c,d, -1, -1, -1, -1,0,0,0] 8 i (-1)).map iv).length=11:=by rw[Ta,mC]
  refine aK ?_;refine aj ?_;refine ah ?_;simp only[seval,b4,mD];refine⟨by omega,?_⟩;rw[xu (show 8+i<(jk [a,b,c,d, -1, -1, -1, -1,0,0,0] 8 i (-1)).length by omega),Kr (by show 8+i<11;omega)];refine ah ?_;simp only[seval,bJ];exact hR _ ⟨bx,trivial,cz⟩
 have:i=3:=by omega
 subst this;clear hc cK;refine bR ?_;rw[show jk [a,b,c,d, -1, -1, -1, -1,0,0,0] 8 3 (-1)=[a,b,c,d, -1, -1, -1, -1, -1, -1, -1]from rfl];refine aj ?_;refine ah ?_;simp only[seval,hr,bS,aT];refine bU ?_;refine eI x.pieces.length (λi:Nat=>[(31,iv i)]) (λi=>Gf σ++[.cells [yv] 132,.cells ([a,b,c,d, -1, -1, -1, -1, -1, -1, -1].map iv) 86,.cells ((qy (x.pieces.map (cm [a,b,c,d])) i).map λn=>wv n) 80]) (λi=>True) (λ_ _=>rfl) (by simp only[seval];simp[a_,Wk.refl]) rfl (λ_ _ _=>by simp) trivial (λbC bW i cK _ R hR=> ?_);refine aj ?_;refine aD ?_;refine⟨λhc=> ?_,λhc=> ?_⟩
 ·have bx:i<x.pieces.length:=by omega
  obtain⟨y,hy⟩:=bK bx;have vJ:(x.pieces.map (cm [a,b,c,d]))[i]?=some (cm [a,b,c,d] y):=by rw[To,hy];rfl
  have b4:(0<=(i:Int)/\(i:Int)<4)=True:=by simp;omega
  have bJ:SD.wrap ((i:Int)+1)=((i+1:Nat):Int):=by rw[br _ (by omega)];rfl
  have cR:(qy (x.pieces.map (cm [a,b,c,d])) i).length=4:=agU (by simp;omega) (by simpa using n9);have wQ:((qy (x.pieces.map (cm [a,b,c,d])) i).map λn=>wv n).length=4:=by rw[Ta,cR]
  refine aK ?_;refine ah ?_;simp only[seval,BA hy,jh bx];refine ah ?_;simp only[seval,hi,b4];refine aH ((F3 (h:=[a,b,c,d]) (y:=y) hh ?_));(try simp only[seval,b4,wQ]);refine⟨by omega,?_⟩;rw[Oz (g:=λn=>wv n) (show i<(qy (x.pieces.map (cm [a,b,c,d])) i).length by omega),agV vJ (by simpa using n9)];refine ah ?_;simp only[seval,bJ];exact hR _ ⟨bx,trivial,Bu (lL rfl rfl) (by simp only[seval];simp[a_,Wk.refl]) (aaP (L:=[_,_]) bC (acu _ _)) (by simp[ec])⟩
 have:i=x.pieces.length:=by omega
 subst this;clear hc cK;refine bR ?_;refine aj ?_;refine ah ?_;simp only[seval,Ue,UH,Um,TU];refine aj ?_;have o1:qy (x.pieces.map (cm [a,b,c,d])) x.pieces.length=x.pieces.map (cm [a,b,c,d])++TM (4-x.pieces.length) 0:=by
  have:=agT (l:=x.pieces.map (cm [a,b,c,d]));simpa using this
 refine aH (?_);rw[hN];have sx:∀n,Lt n (.aO []):=λn=>by simp[jV]
 have hT0:∀eA,pw [a,b,c,d] x.pieces.length 0 [] eA->True:=λ_ _=>trivial;refine aiH (x:=x) (h:=[a,b,c,d]) hx rfl hY hr o1 x.pieces.length 0 0 [] [a,b,c,d, -1, -1, -1, -1, -1, -1, -1] σ [] _ _ rfl (by decide) rfl ⟨rfl,rfl,?_⟩ hI hA (λeA tF=> ?_)
 ·have:x.pieces.length=0\/x.pieces.length=1\/x.pieces.length=2\/x.pieces.length=3\/x.pieces.length=4:=by omega
  rcases this with e|e|e|e|e<;>rw[e]<;>rfl
 change cZ Gf pv _ _ _ (bG f ((gg x [a,b,c,d]).map (dZ [a,b,c,d])) σ);cases hf:bG f ((gg x [a,b,c,d]).map (dZ [a,b,c,d])) σ with
 |go s=>
  rw[hf]at hk;simp only[cZ,gk]at hk⊢;rw[SO]at hk;(try simp only[seval]);rw[<- hN];exact vZ hY hH sx hk
 |stop s=>
  rw[hf]at hk;simp only[cZ,gk]at hk⊢;rw[SO]at hk;(try simp only[seval]);rw[<- hN];exact vZ hY hH sx hk
 |bad s=>
  rw[hf]at hk;simp only[cZ,gk]at hk⊢;rw[SO]at hk;rw[<- hN];exact vZ hY hH mI hk
end
open Go.Conc Go.Proofs Go.Gg.Tk
namespace Tk
structure oD (h:List Int)(ns:List Nat)(k s:Nat)(o:List Nat)(tc:List Int):Prop where
 len:tc.length=11
 pre:tc.take (8+s)=h++lP 4 ns++o.map λn:Nat=>(n:Int)
 tl:tc.drop (8+k)=TM (3-k) (-1)
theorem oD.all{h:List Int}{ns:List Nat}{k:Nat}{o:List Nat}{tc:List Int}(ho:o.length=k)(n:oD h ns k k o tc):tc=dE h ns o:=by
 have:=Vr (8+k) tc;rw[n.pre,n.tl]at this;rw[<- this];unfold dE
 conv=>rhs;unfold lP
 rw[ho,SC];rfl
theorem Bq{k:Nat}{l:List Nat}(h:l.length<=k):(lP k l).length=k:=by simp[lP];omega
theorem oD.back{h:List Int}{ns:List Nat}{k s:Nat}{o:List Nat}{n:Nat}{tc:List Int}(h4:h.length=4)(hn:ns.length<=4)(ho:o.length=s)(q:oD h ns k (s+1) (o++[n]) tc):oD h ns k s o tc:=by
 refine⟨q.len,?_,q.tl⟩;have e:tc.take (8+s)=(tc.take (8+(s+1))).take (8+s):=by rw[U9];congr 1;omega
 have hp:=Bq hn;rw[e,q.pre,Tn,<- SC,TB (by simp[h4,ho,hp];omega),SV (by simp[h4,ho,hp];omega)]
theorem oD.next{h:List Int}{ns:List Nat}{k s:Nat}{o:List Nat}{n:Nat}{tc:List Int}(hp:s<k)(hk:k<=3)(q:oD h ns k s o tc):oD h ns k (s+1) (o++[n]) (tc.set (8+s) (n:Int)):=by
 refine⟨by rw[TJ];exact q.len,?_,?_⟩
 ·rw[show 8+(s+1)=(8+s)+1 by omega,OQ (by rw[q.len];omega),q.pre];simp
 ·rw[QK (by omega)];exact q.tl
theorem oD.num{h:List Int}{ns:List Nat}{k s p:Nat}{o:List Nat}{tc:List Int}(h4:h.length=4)(hn:ns.length<=4)(hp:p<ns.length)(q:oD h ns k s o tc):tc[4+p]?=some ((ns.getD p 0:Nat):Int):=by
 have h1:(tc.take (8+s))[4+p]?=some ((ns.getD p 0:Nat):Int):=by
  rw[q.pre,SC,S_ (by omega),h4,show 4+p-4=p by omega,SY (by rw[Bq hn];omega)];unfold lP;rw[SY (by simpa using hp),To,SE,SX hp];rfl
 rwa [Uj,if_pos (by omega)]at h1
theorem apa{h:List Int}{ns:List Nat}{k q:Nat}{qs:List Nat}{u:Nat}{o:List Nat}:(mQ k ns (q::qs) u o).map (dE h ns)=(S0 k).flatMap λp=>if u.testBit p|| !q.testBit (ns.getD p 0)then[]else(mQ k ns qs (u|||2^p) (o++[p])).map (dE h ns):=by
 rw[mQ,VE];congr 1;funext n;split<;>rfl
end Tk
open Go.Conc Go.Proofs Go.Gg.Tk
section
variable {lv:Bool}
def zm (yv:AV)(N ir it is:Nat):List aa:=[.cells [yv] 132,.cells [.fn (.func 109) [] [.op ir 0,.op N 0,.op it 0,.op is 0,.op (N+1) 0]] 157]
theorem aiJ{x:ak}{h:List Int}{ns qs:List Nat}{N ir it is:Nat}{yv pv:AV}{S:Type}{f:S->List Int->dG S}{Gf:List Int->S->List aa}{I:S->Prop}{A:List Int->Prop}(hx:x.Ok)(h4:h.length=4)(iL:ns.length=x.pieces.length)(hY:∀tc,j6 lv SA yv f (Gf tc) N I A pv)(hr:∀tc σ L,(Gf tc σ++L)[ir]?=some (.cells x.l 76))
  (ht:∀tc σ L,(Gf tc σ++L)[it]?=some (.cells (tc.map iv) 86)) (dX:∀tc eA σ L,(Gf tc σ++L).set it (.cells (eA.map iv) 86)=Gf eA σ++L) (hs:∀tc σ L,(Gf tc σ++L)[is]?=some (.cells (qs.map λn=>wv n) 81)) (A1:∃r,qs=x.aC.map (cm h)++r) (yO:qs.length=3):
  ∀(d s u:Nat)(o:List Nat)(tc:List Int)(σ:S)(M:List aa)(k kp:AV->List aa->Prop),d+s=x.aC.length->u<65536->o.length=s->oD h ns x.aC.length s o tc->I σ->(∀a∈(mQ x.pieces.length ns ((x.aC.map (cm h)).drop s) u o).map (dE h ns),A a)->
   (∀eA,oD h ns x.aC.length s o eA->cZ (Gf eA) pv k kp (zm yv N ir it is++M) (bG f ((mQ x.pieces.length ns ((x.aC.map (cm h)).drop s) u o).map (dE h ns)) σ))->
   bc lv SA 109 (Gf tc σ++(zm yv N ir it is++M)) [iv s,wv u,.op ir 0,.op N 0,.op it 0,.op is 0,.op (N+1) 0] k kp:=by
 intro d;induction d with
 |zero=>
  intro s u o tc σ M k kp pM hu ho hT hI hA hk;refine bD (rs:=[.tmp 9]) (nt:=54) al_ λhH u9=> ?_;simp only[bk,SU];have bS:x.l=[iv x.first,iv x.hours,iv x.am,dt x.seen,aT x.pieces,aT x.aC]:=rfl;have g0:∀(tc:List Int)(σ:S)(L:List aa),(Gf tc σ++L)[N]?=L[0]?:=λtc σ L=>(hY tc).get σ L 0;have dz:s=x.aC.length:=by omega
  have wS:(x.aC.map (cm h)).drop s=[]:=T7 (by simp;omega);rw[wS,mQ]at hA hk;rw[Zd]at hA hk;rw[Oo]at hk;have yU:tc=dE h ns o:=by subst dz;exact hT.all ho
  have kC:(tc.map iv).length=11:=by rw[Ta,hT.len]
  refine aj ?_;refine ah ?_;simp only[seval,hr,bS,aT];refine aD ?_;refine⟨λhc=> ?_,λhc=>by exfalso;simp at hc;omega⟩;refine ah ?_;simp only[seval,g0,ht,zm,kC];rw[SV (i:=11) (l:=tc.map iv) (by rw[kC];exact SP _)];rw[<- yU]at hA hk;have aJ:=hk tc hT;refine xZ ((hY tc).call σ tc (zm yv N ir it is++M) _ _ hI (hA _ (by simp)) ?_);cases hf:f σ tc with
  |go σ'=>
   rw[hf]at aJ;simp only[cZ]at aJ⊢;(try simp only[seval]);refine aZ ?_;exact b8 aJ
  |stop σ'=>
   rw[hf]at aJ;simp only[cZ]at aJ⊢;(try simp only[seval]);refine aZ ?_;exact b8 aJ
  |bad σ'=>
   rw[hf]at aJ;simp only[cZ]at aJ⊢;exact b8 aJ
 |succ d ihd=>
  intro s u o tc σ M k kp pM hu ho hT hI hA hk;refine bD (rs:=[.tmp 9]) (nt:=54) al_ λhH u9=> ?_;simp only[bk,SU];have bS:x.l=[iv x.first,iv x.hours,iv x.am,dt x.seen,aT x.pieces,aT x.aC]:=rfl;have g1:∀(tc:List Int)(σ:S)(L:List aa),(Gf tc σ++L)[N+1]?=L[1]?:=λtc σ L=>(hY tc).get σ L 1;have n9:=hx.ey;have yR:=hx.dp;obtain⟨y,hy⟩:=bK (xs:=x.aC) (i:=s) (by omega);have vJ:(x.aC.map (cm h))[s]?=some (cm h y):=by rw[To,hy];rfl
  have iM:qs[s]?=some (cm h y):=by obtain⟨r,e⟩:=A1;rw[e,SY (by simp;omega)];exact vJ
  have ie:cm h y<65536:=Wr (Rr h y) (by decide);have aG:¬(s:Int)=(x.aC.length:Int):=by omega
  rw[wE vJ,apa]at hA hk;generalize hg:(λp=>if u.testBit p|| !(cm h y).testBit (ns.getD p 0)then[]else(mQ x.pieces.length ns ((x.aC.map (cm h)).drop (s+1)) (u|||2^p) (o++[p])).map (dE h ns))=g at hA hk;refine aj ?_;refine ah ?_;simp only[seval,hr,bS,aT];refine aD ?_;refine⟨λhc=>by exfalso;exact aG (by simpa using hc),λhc=> ?_⟩;refine aK ?_;refine ah ?_;simp only[seval,hr,bS,aT];refine bU ?_;refine z9 (measure λm:Nat×S×List Int=>x.pieces.length-m.1).wf (λm=>[(24,iv (m.1:Nat))]) (λm=>Gf m.2.2 m.2.1++(zm yv N ir it is++M)) (λm=>m.1<=x.pieces.length/\bG f ((S0 m.1).flatMap g) σ=.go m.2.1/\oD h ns x.aC.length s o m.2.2) (0,σ,tc) (λ_ _=>rfl) (by intro p hp;simp at hp;subst hp;exact⟨_,rfl,Wk.refl _⟩) rfl (λ_ _=>by simp[zm,(hY _).len]) ⟨by omega,rfl,hT⟩ (λbC bW m aq R hR=> ?_);obtain⟨i,τ,tq⟩:=m;obtain⟨hi,bL,lX⟩:=aq;replace hi:i<=x.pieces.length:=hi;replace bL:bG f ((S0 i).flatMap g) σ=.go τ:=bL;replace lX:oD h ns x.aC.length s o tq:=lX;refine aj ?_;refine aD ?_;refine⟨λhc=> ?_,λhc=> ?_⟩
  ·have bx:i<x.pieces.length:=(by omega);have bJ:SD.wrap ((i:Int)+1)=((i+1:Nat):Int):=(by rw[br _ (by omega)];rfl);have hws:SD.wrap ((s:Int)+1)=((s+1:Nat):Int):=(by rw[br _ (by omega)];rfl);have si:=KA g bx;have p7:=KB g i;have CU:I τ:=Bv (A:=A) (hY tc).inv _ σ τ (λa ha=>hA a (by rw[si];exact Th _ ha)) hI bL;have b3:(0<=(s:Int)/\(s:Int)<3)=True:=(by simp;omega);have b4:(0<=(i:Int)/\(i:Int)<4)=True:=(by simp;omega);have EK:(u.testBit i|| !(cm h y).testBit (ns.getD i 0))=true->g i=[]:=λe=>(by rw[<- hg];exact if_pos e);have KI:(u.testBit i|| !(cm h y).testBit (ns.getD i 0))=false->g i=(mQ x.pieces.length ns ((x.aC.map (cm h)).drop (s+1)) (u|||2^i) (o++[i])).map (dE h ns):=λe=>(by rw[<- hg];exact if_neg (by rw[e];simp));have aaO:=lX.num h4 (by omega) (show i<ns.length by omega);refine aK ?_;refine aj ?_;refine eO 14 ?_;simp only[seval,ht,hs,b3,b4,Aj iM,lw aaO];refine ij (bv (u.testBit i)) (cC (yc hu ⟨rfl,rfl⟩)) ?_;(try simp only[seval]);refine yk (λh2=> ?_) (λh2=> ?_)
   ·(try simp only[seval,ht,hs,b3,b4,Aj iM,lw aaO]);refine ij (bv ((cm h y).testBit (ns.getD i 0))) (cC (yc ie ⟨rfl,rfl⟩)) ?_;(try simp only[seval]);refine aD ?_;refine⟨λh3=> ?_,λh3=> ?_⟩
    ·have aN:=EK (by rw[h2];simpa using h3);refine bR ?_;refine ah ?_;simp only[seval,bJ];exact hR _ ⟨(i+1,τ,tq),(by show x.pieces.length-(i+1)<x.pieces.length-i;omega),⟨by omega,by rw[p7,aN,SO];exact bL,lX⟩,cz⟩
    ·have aN:=KI (by rw[h2];simpa using h3);have kC:(tq.map iv).length=11:=(by rw[Ta,lX.len]);have Ju:8+s<tq.length:=(by rw[lX.len];omega);refine aK ?_;refine ah ?_;simp only[seval,ht,b3,kC];refine⟨by omega,?_⟩;rw[xu Ju,dX];refine eO 6 ?_;simp only[seval,g1,zm];refine ij (wv (u|||2^i)) (cC (u5 hu (show i<16 by omega) ⟨rfl,rfl⟩)) ?_;rw[hws];have mf:u|||2^i<65536:=qh hu (xz (by omega));refine aH ((ihd (s+1) (u|||2^i) (o++[i]) (tq.set (8+s) (i:Int)) τ M _ _ (by omega) mf (by simp[ho]) (lX.next (by omega) yR) CU (λa ha=>hA a (by rw[si,aN];exact S4 _ (Th _ ha))) (λeA tF=> ?_)));have CZ:=tF.back h4 (by omega) ho;have A7:bG f ((S0 x.pieces.length).flatMap g) σ=match bG f (g i) τ with
       |.go s'=>bG f ((Ug (i+1) (x.pieces.length-(i+1))).flatMap g) s'
       |r=>r:=by
      rw[si,rh,bL];exact rh f (g i) _ τ
     rw[<- aN];have aJ:=hk eA CZ;rw[A7]at aJ;cases hf:bG f (g i) τ with
     |go τ'=>
      simp only[cZ];(try simp only[seval]);refine aD ?_;refine aK ?_;refine ah ?_;simp only[seval,bJ];exact hR _ ⟨(i+1,τ',eA),(by show x.pieces.length-(i+1)<x.pieces.length-i;omega),⟨by omega,by rw[p7,rh,bL];exact hf,CZ⟩,cz⟩
     |stop τ'=>
      rw[hf]at aJ;simp only[cZ]at aJ⊢;(try simp only[seval]);refine aD ?_;refine aj ?_;refine aZ ?_;exact b8 aJ
     |bad τ'=>
      rw[hf]at aJ;simp only[cZ]at aJ⊢;exact b8 aJ
   ·(try simp only[seval]);refine aD ?_;have aN:=EK (by rw[show u.testBit i=true by simpa using h2];rfl);refine bR ?_;refine ah ?_;simp only[seval,bJ];exact hR _ ⟨(i+1,τ,tq),(by show x.pieces.length-(i+1)<x.pieces.length-i;omega),⟨by omega,by rw[p7,aN,SO];exact bL,lX⟩,cz⟩
  ·have dD:i=x.pieces.length:=(by omega);subst dD;have aJ:=hk tq lX;rw[bL]at aJ;refine bR ?_;refine aj ?_;refine aZ ?_;exact b8 aJ
theorem ajz{H:List aa}{k kp:AV->List aa->Prop}{x:ak}{tc:List Int}{qs:List Nat}(hk:k (.fn (.func 108) [] [.op H.length 0,.op (H.length+1) 0,.op (H.length+2) 0]) (H++[.cells x.l 76,.cells (tc.map iv) 86,.cells (qs.map λn=>wv n) 81])):bc lv SA 93 H [x.av,.agg (tc.map iv),.agg (qs.map λn=>wv n)] k kp:=by
 refine bD (rs:=[.tmp 6]) (nt:=8) Tryz.f93 λhH hA=> ?_;simp only[bk,SU,ak.av];refine aj ?_;refine ah ?_;simp only[seval,Ue,UH,Um,TU];refine aZ ?_;exact b8 hk
theorem aiI{x:ak}{h:List Int}{ns qs:List Nat}{N ir it is:Nat}{yv pv:AV}{S:Type}{f:S->List Int->dG S}{Gf:List Int->S->List aa}{I:S->Prop}{A:List Int->Prop}{tc:List Int}{σ:S}{k kp:AV->List aa->Prop}(hx:x.Ok)(h4:h.length=4)(iL:ns.length=x.pieces.length)(hY:∀tc,j6 lv SA yv f (Gf tc) N I A pv)(hr:∀tc σ L,(Gf tc σ++L)[ir]?=some (.cells x.l 76))
  (ht:∀tc σ L,(Gf tc σ++L)[it]?=some (.cells (tc.map iv) 86)) (dX:∀tc eA σ L,(Gf tc σ++L).set it (.cells (eA.map iv) 86)=Gf eA σ++L) (hs:∀tc σ L,(Gf tc σ++L)[is]?=some (.cells (qs.map λn=>wv n) 81)) (A1:∃r,qs=x.aC.map (cm h)++r) (yO:qs.length=3)
  (aq:∀m tc eA σ,(∀z∈Gf tc σ,e_ m z)->∀z∈Gf eA σ,e_ m z) (mI:∀n,Lt n pv) (yU:tc=dZ h ns) (hI:I σ) (hA:∀a∈(iE x h ns).map (dE h ns),A a) (hk:∀eA,eA.length=11->gk (Gf eA) pv k kp [] (bG f ((iE x h ns).map (dE h ns)) σ)):bc lv SA 108 (Gf tc σ) [yv,.op ir 0,.op it 0,.op is 0] k kp:=by
 refine bD (rs:=[]) (nt:=9) Tryz.f108 λhH u9=> ?_;simp only[bk,SU];have hN:=(hY tc).len σ;have n9:=hx.ey;have yR:=hx.dp;refine ah ?_;simp only[seval,(hY tc).parts];refine aj ?_;refine ah ?_;simp only[seval,Ue,UH,Um,TU];refine aj ?_;refine aH (?_);rw[hN];have sx:∀n,Lt n (.aO []):=λn=>by simp[jV]
 have dz:=Bq (k:=4) (l:=ns) (by omega);have cut:∀(eA:List Int)(σ':S)(L:List aa)(a:AV)(k:AV->List aa->Prop),(∀n,Lt n a)->k a (Gf eA σ')->cJ (Gf tc σ).length (Gf eA σ'++L) a k:=λeA σ' L a k ha aJ=>by
  refine jI (H':=Gf eA σ') (Wk.refl _) rfl (by rw[(hY eA).len,(hY tc).len];exact SP _) ?_ (ha _) aJ;intro z hz;have h1:∀z∈Gf eA σ,e_ N z:=aq N tc eA σ (λw hw=>by have:=hH w hw;rwa [hN]at this);rw[(hY eA).len];exact(hY eA).ok N σ σ' h1 z hz
 refine aiJ (x:=x) (h:=h) (ns:=ns) (qs:=qs) hx h4 iL hY hr ht dX hs A1 yO x.aC.length 0 0 [] tc σ [] _ _ rfl (by decide) rfl ⟨?_,?_,?_⟩ hI hA (λeA tF=> ?_)
 ·rw[yU];simp[dZ,h4,dz]
 ·rw[yU];unfold dZ;rw[List.map_nil,SO,TB (by simp[h4,dz]),SV (by simp[h4,dz])]
 ·rw[yU];unfold dZ;rw[VA,T7 (by simp[h4,dz]),UN];have:(h++lP 4 ns).length=8:=by simp[h4,dz]
  rw[this];have:x.aC.length=0\/x.aC.length=1\/x.aC.length=2\/x.aC.length=3:=by omega
  rcases this with e|e|e|e<;>rw[e]<;>rfl
 have hk:=hk eA tF.len;change cZ (Gf eA) pv _ _ _ (bG f ((iE x h ns).map (dE h ns)) σ);cases hf:bG f ((iE x h ns).map (dE h ns)) σ with
 |go s=>
  rw[hf]at hk;simp only[cZ,gk]at hk⊢;rw[SO]at hk;(try simp only[seval]);rw[<- hN];exact cut _ _ _ _ _ sx hk
 |stop s=>
  rw[hf]at hk;simp only[cZ,gk]at hk⊢;rw[SO]at hk;(try simp only[seval]);rw[<- hN];exact cut _ _ _ _ _ sx hk
 |bad s=>
  rw[hf]at hk;simp only[cZ,gk]at hk⊢;rw[SO]at hk;rw[<- hN];exact cut _ _ _ _ _ mI hk
end
section
variable {lv:Bool}{P:SI}{s:AS}{ms:List Nat}{bs:List U3}{nt:Nat}
theorem agD{f:Tj}{ps:Array Tmp}{bO body:Ub}{fv:AV}{Φ:an->AS->List Nat->Prop}(hf:s.ev f=some fv)
  (h:∀(l fn:Nat)(T:List (Nat×AV))(ag bo:Ub),T=s.T->ag=bO->bo=body->je lv P fv (s.H++[.obj (.deferred (some [])),.loop l .ready none fn T nt ps ag bo s.H.length]) [.fn (.yield l) [] []]
   (λ_ H'=>∃st pe fI T' jw gE gn fz gq,H'[s.H.length+1]?=some (.loop l st pe fI T' jw gE gn fz gq)/\st≠ .busy/\sZ Φ ⟨s.T,H'.set (s.H.length+1) .gone⟩ (s.H.length::ms) pe)
   (λpv H'=>Φ (.panic pv) ⟨s.T,H'⟩ (s.H.length::ms))):mW lv P nt (.rangeFunc f ps bO body) s ms Φ:=agC hf λl fn=>h l fn _ _ _ rfl rfl rfl
theorem Jr{f:Tj}{ps:Array Tmp}{bO body:Ub}{fv:AV}{Φ:an->AS->List Nat->Prop}(hf:s.ev f=some fv)
  (h:∀(l fn:Nat)(T:List (Nat×AV))(ag bo:Ub),T=s.T->ag=bO->bo=body->je lv P fv (s.H++[.obj (.deferred (some [])),.loop l .ready none fn T nt ps ag bo s.H.length]) [.fn (.yield l) [] []]
   (λ_ H'=>∃st pe fI T' jw gE gn fz gq,H'[s.H.length+1]?=some (.loop l st pe fI T' jw gE gn fz gq)/\st≠ .busy/\sZ Φ ⟨s.T,H'.set (s.H.length+1) .gone⟩ (s.H.length::ms) pe)
   (λpv H'=>Φ (.panic pv) ⟨s.T,H'⟩ (s.H.length::ms))):kM lv P nt bs (.rangeFunc f ps bO body) s ms Φ:=agG hf λl fn=>h l fn _ _ _ rfl rfl rfl
theorem FK{f:Tj}{ps:Array Tmp}{bO body:Ub}{fv:AV}{Φ:an->AS->Prop}{l0:Nat}(Hq:Nat){KD NJ df:Nat}{OJ:ad_}{NX:Option Ub}{T0:List (Nat×AV)}{Of:Array Tmp}{Jk Jx:Ub}(hf:s.ev f=some fv)(h0:s.H[Hq]?=some (.loop l0 OJ NX KD T0 NJ Of Jk Jx df))
  (h:∀(l fn:Nat)(T:List (Nat×AV))(ag bo:Ub),T=s.T->ag=bO->bo=body->je lv P fv (s.H++[.loop l .ready none fn T nt ps ag bo df]) [.fn (.yield l) [] []]
   (λ_ H'=>∃st pe fI T' jw gE gn fz gq,H'[s.H.length]?=some (.loop l st pe fI T' jw gE gn fz gq)/\st≠ .busy/\uJ Φ ⟨s.T,H'.set s.H.length .gone⟩ pe)
   (λpv H'=>Φ (.panic pv) ⟨s.T,H'⟩)):aQ lv P (some l0) nt (.rangeFunc f ps bO body) s Φ:=agr hf h0 λl fn=>h l fn _ _ _ rfl rfl rfl
end
section
variable {P:SI}
theorem Ib(Φ:an->AS->List Nat->Prop)(s:AS)(ms:List Nat):sZ Φ s ms none=Φ .normal s ms:=by rw[sZ]
theorem apB(Φ:an->AS->List Nat->Prop)(s:AS)(ms:List Nat):sZ Φ s ms (some .ret)=Φ .ret s ms:=by rw[sZ]
theorem Ic(Φ:an->AS->Prop)(s:AS):uJ Φ s none=Φ .normal s:=by rw[uJ]
theorem apD(Φ:an->AS->Prop)(s:AS):uJ Φ s (some .ret)=Φ .ret s:=by rw[uJ]
theorem apC(Φ:an->AS->Prop)(s:AS)(i:Nat):uJ Φ s (some (.exit i))=Φ (.exit i) s:=by rw[uJ]
theorem agZ(id:Nat)(Φ:an->AS->List Nat->Prop)(s:AS)(ms:List Nat):an.qz id Φ .ret s ms=Φ .ret s ms:=by rw[an.qz];simp
theorem agY(id:Nat)(Φ:an->AS->List Nat->Prop)(pv:AV)(s:AS)(ms:List Nat):an.qz id Φ (.panic pv) s ms=Φ (.panic pv) s ms:=by rw[an.qz];simp
theorem arZ(Φ:an->AS->List Nat->Prop)(pv:AV)(s:AS)(ms:List Nat):an.v8 Φ (.panic pv) s ms=Φ (.panic pv) s ms:=by rw[an.v8];simp
theorem asM(K:AS->List Nat->Prop)(Φ:an->AS->List Nat->Prop)(pv:AV)(s:AS)(ms:List Nat):an.sK K Φ (.panic pv) s ms=Φ (.panic pv) s ms:=by rw[an.sK];simp
theorem aj1(rs:List UT)(n:Nat)(k kp:AV->List aa->Prop)(s:AS)(ms:List Nat):sV P rs n k kp .normal s ms=ao (iT ms s.H) λH'=>ao (ik P ⟨s.T,H'⟩ rs) λl=>cJ n H' (jc l) k:=by rw[sV]
theorem aj2(rs:List UT)(n:Nat)(k kp:AV->List aa->Prop)(pv:AV)(s:AS)(ms:List Nat):sV P rs n k kp (.panic pv) s ms=ao (iT ms s.H) λH'=>cJ n H' pv kp:=by rw[sV]
attribute [seval] agZ agY arZ asM aj1 aj2
end
inductive Lp where
 |ready
 |ret
 |exit (i:Nat)
 |busy
def Lp.st:Lp->ad_
 |.ready=> .ready
 |.ret=> .done
 |.exit _=> .done
 |.busy=> .busy
def Lp.pe:Lp->Option Ub
 |.ready=>none
 |.ret=>some .ret
 |.exit i=>some (.exit i)
 |.busy=>none
namespace Tk
def dG.map {S T:Type}(g:S->T):dG S->dG T
 |.go s=> .go (g s)
 |.stop s=> .stop (g s)
 |.bad s=> .bad (g s)
def dG.fin {S:Type}:dG S->Bool×S
 |.go s=>(false,s)
 |.stop s=>(false,s)
 |.bad s=>(true,s)
end Tk
theorem Om{S:Type}{Gf:S->List aa}{pv:AV}{k kp:AV->List aa->Prop}{M:List aa}{r r':dG S}(h:r.fin=r'.fin)(hk:gk Gf pv k kp M r):gk Gf pv k kp M r':=by
 cases r<;>cases r'<;>simp only[dG.fin,U8]at h<;>first
  |(obtain⟨_,rfl⟩:=h;exact hk)
  |(exact absurd h.1 (by decide))
end Go.Gg
namespace Go.Gg.Tk
open Go.Gg
def jd {S:Type}(f:S->List Int->dG S)(deep:Int)(m:S×Lp)(b:List Int):dG (S×Lp):=match f m.1 b with
 |.go σ=>if deep=0 then .stop (σ,.ret)else if deep=1 then .stop (σ,.exit 3)else .go (σ,.ready)
 |.stop σ=> .stop (σ,.ret)
 |.bad σ=> .bad (σ,.busy)
def ln {S:Type}:dG (S×Lp)->dG (S×Lp)
 |.go m=> .go (m.1,.ready)
 |.stop (σ,.ret)=> .stop (σ,.ret)
 |.stop (σ,_)=> .go (σ,.ready)
 |.bad m=> .bad (m.1,.busy)
def qj {S:Type}(f:S->List Int->dG S)(deep:Int)(L:List Int->List (List Int))(m:S×Lp)(a:List Int):dG (S×Lp):=ln (bG (jd f deep) (L a) (m.1,.ready))
def sC (deep:Int)(ll:List (List (List Int))):List (List Int):=if deep=0 then ll.flatten.take 1 else if deep=1 then(ll.map (·.take 1)).flatten else ll.flatten
theorem asY{S:Type}{f:S->List Int->dG S}{σ:S}{l:Lp}:∀(M:List (List Int)),bG (jd f 0) M (σ,l)=match M with
  |[]=> .go (σ,l)
  |b::_=>match f σ b with
   |.go τ=> .stop (τ,.ret)
   |.stop τ=> .stop (τ,.ret)
   |.bad τ=> .bad (τ,.busy)
 |[]=>rfl
 |b::M=>by
  simp only[bG,jd];cases f σ b<;>simp
theorem asZ{S:Type}{f:S->List Int->dG S}{σ:S}{l:Lp}:∀(M:List (List Int)),bG (jd f 1) M (σ,l)=match M with
  |[]=> .go (σ,l)
  |b::_=>match f σ b with
   |.go τ=> .stop (τ,.exit 3)
   |.stop τ=> .stop (τ,.ret)
   |.bad τ=> .bad (τ,.busy)
 |[]=>rfl
 |b::M=>by
  simp only[bG,jd];cases f σ b<;>simp
theorem aej{S:Type}{f:S->List Int->dG S}{deep:Int}(h0:deep≠0)(h1:deep≠1):∀(M:List (List Int))(σ:S),bG (jd f deep) M (σ,.ready)=match bG f M σ with
  |.go τ=> .go (τ,.ready)
  |.stop τ=> .stop (τ,.ret)
  |.bad τ=> .bad (τ,.busy)
 |[],σ=>rfl
 |b::M,σ=>by
  simp only[bG,jd,h0,h1,if_false];cases f σ b with
  |go τ=>exact aej h0 h1 M τ
  |stop τ=>rfl
  |bad τ=>rfl
theorem aek{S:Type}{f:S->List Int->dG S}{deep:Int}{L:List Int->List (List Int)}:∀(l:List (List Int))(σ:S),((bG (qj f deep L) l (σ,.ready)).map Prod.fst).fin=(bG f (sC deep (l.map L)) σ).fin/\(∀m,bG (qj f deep L) l (σ,.ready)=.go m->m.2=.ready)
 |[],σ=>by
  have:sC deep (([]:List (List Int)).map L)=[]:=by
   unfold sC;by_cases h0:deep=0
   ·rw[if_pos h0];rfl
   ·by_cases h1:deep=1
    ·rw[if_neg h0,if_pos h1];rfl
    ·rw[if_neg h0,if_neg h1];rfl
  rw[this];exact⟨rfl,λm h=>by cases h;rfl⟩
 |a::l,σ=>by
  have ih:=aek (f:=f) (deep:=deep) (L:=L) l;by_cases h0:deep=0
  ·subst h0;have hp:sC 0 ((a::l).map L)=(L a++(l.map L).flatten).take 1:=rfl;have kj:sC 0 (l.map L)=((l.map L).flatten).take 1:=rfl;rw[hp];simp only[bG,qj,asY];cases hL:L a with
   |nil=>
    simp only[ln,UN];rw[<- kj];exact ih σ
   |cons b M=>
    simp only[Vp,VZ,Za];cases hf:f σ b with
    |go τ=>simp only[ln,bG,hf];exact⟨rfl,λm h=>by cases h⟩
    |stop τ=>simp only[ln,bG,hf];exact⟨rfl,λm h=>by cases h⟩
    |bad τ=>simp only[ln,bG,hf];exact⟨rfl,λm h=>by cases h⟩
  by_cases h1:deep=1
  ·subst h1;have hp:sC 1 ((a::l).map L)=(L a).take 1++sC 1 (l.map L):=rfl;rw[hp,rh];simp only[bG,qj,asZ];cases hL:L a with
   |nil=>
    simp only[ln,List.take_nil,bG];exact ih σ
   |cons b M=>
    simp only[VZ,Za,bG];cases hf:f σ b with
    |go τ=>simp only[ln];exact ih τ
    |stop τ=>simp only[ln];exact⟨rfl,λm h=>by cases h⟩
    |bad τ=>simp only[ln];exact⟨rfl,λm h=>by cases h⟩
  ·have hp:sC deep ((a::l).map L)=L a++sC deep (l.map L):=(by unfold sC;rw[if_neg h0,if_neg h1,if_neg h0,if_neg h1];rfl);rw[hp,rh];simp only[bG,qj];rw[aej h0 h1];cases hf:bG f (L a) σ with
   |go τ=>simp only[ln];exact ih τ
   |stop τ=>simp only[ln];exact⟨rfl,λm h=>by cases h⟩
   |bad τ=>simp only[ln];exact⟨rfl,λm h=>by cases h⟩
theorem Oq{S α:Type}{F:S->α->dG S}:∀{l:List α}{s s':S},bG F l s=.stop s'->∃t a,F t a=.stop s'
 |[],s,s',h=>by cases h
 |a::l,s,s',h=>by
  simp only[bG]at h;cases hf:F s a with
  |go t=>rw[hf]at h;exact Oq h
  |stop t=>rw[hf]at h;cases h;exact⟨s,a,hf⟩
  |bad t=>rw[hf]at h;cases h
theorem asX{S:Type}{f:S->List Int->dG S}{deep:Int}{L:List Int->List (List Int)}{m m':S×Lp}{a:List Int}(h:qj f deep L m a=.stop m'):m'.2=.ret:=by
 unfold qj at h;generalize bG (jd f deep) (L a) (m.1,.ready)=r at h;cases r with
 |go q=>cases h
 |bad q=>cases h
 |stop q=>
  obtain⟨s,lp⟩:=q;cases lp<;>cases h;rfl
theorem as1{S:Type}{f:S->List Int->dG S}{deep:Int}{m m':S×Lp}{a:List Int}(h:jd f deep m a=.stop m'):m'.2=.ret\/m'.2=.exit 3:=by
 unfold jd at h;cases hf:f m.1 a with
 |go q=>
  rw[hf]at h;dsimp only at h;by_cases h0:deep=0
  ·rw[if_pos h0]at h;cases h;exact .inl rfl
  ·rw[if_neg h0]at h;by_cases h1:deep=1
   ·rw[if_pos h1]at h;cases h;exact .inr rfl
   ·rw[if_neg h1]at h;cases h
 |stop q=>rw[hf]at h;cases h;exact .inl rfl
 |bad q=>rw[hf]at h;cases h
theorem as0{S:Type}{f:S->List Int->dG S}{deep:Int}{m m':S×Lp}{a:List Int}(h:jd f deep m a=.go m'):m'.2=.ready:=by
 unfold jd at h;cases hf:f m.1 a with
 |go q=>
  rw[hf]at h;dsimp only at h;by_cases h0:deep=0
  ·rw[if_pos h0]at h;cases h
  ·rw[if_neg h0]at h;by_cases h1:deep=1
   ·rw[if_pos h1]at h;cases h
   ·rw[if_neg h1]at h;cases h;rfl
 |stop q=>rw[hf]at h;cases h
 |bad q=>rw[hf]at h;cases h
theorem ac1{S α:Type}{F:S->α->dG S}{J:S->Prop}{A:α->Prop}(hi:∀s a s',J s->A a->F s a=.go s'->J s'):∀{l:List α}{s s':S},(∀a∈l,A a)->J s->bG F l s=.stop s'->∃t a,J t/\A a/\F t a=.stop s'
 |[],s,s',_,_,h=>by cases h
 |a::l,s,s',ha,hs,h=>by
  simp only[bG]at h;cases hf:F s a with
  |go t=>rw[hf]at h;exact ac1 hi (λb hb=>ha b (by simp[hb])) (hi s a t hs (ha a (by simp)) hf) h
  |stop t=>rw[hf]at h;cases h;exact⟨s,a,hs,ha a (by simp),hf⟩
  |bad t=>rw[hf]at h;cases h
theorem EQ{S:Type}{f:S->List Int->dG S}{deep:Int}{I:S->Prop}{A:List Int->Prop}(hi:∀s a s',I s->A a->f s a=.go s'->I s'){m m':S×Lp}{a:List Int}(hm:I m.1)(ha:A a)(h:jd f deep m a=.go m'\/jd f deep m a=.stop m'/\m'.2≠ .ret):I m'.1:=by
 unfold jd at h;cases hf:f m.1 a with
 |go q=>
  have hq:=hi _ _ _ hm ha hf;rw[hf]at h;dsimp only at h;by_cases h0:deep=0
  ·rw[if_pos h0]at h;rcases h with h|⟨h,h2⟩
   ·cases h
   ·cases h;exact hq
  ·rw[if_neg h0]at h;by_cases h1:deep=1
   ·rw[if_pos h1]at h;rcases h with h|⟨h,h2⟩
    ·cases h
    ·cases h;exact hq
   ·rw[if_neg h1]at h;rcases h with h|⟨h,h2⟩
    ·cases h;exact hq
    ·cases h
 |stop q=>
  rw[hf]at h;rcases h with h|⟨h,h2⟩
  ·cases h
  ·cases h;exact absurd rfl h2
 |bad q=>
  rw[hf]at h;rcases h with h|⟨h,h2⟩
  ·cases h
  ·cases h
theorem afJ{S:Type}{f:S->List Int->dG S}{deep:Int}{I:S->Prop}{A:List Int->Prop}(hi:∀s a s',I s->A a->f s a=.go s'->I s'){l:List (List Int)}{σ:S}{m:S×Lp}(hl:∀a∈l,A a)(hs:I σ)(h:ln (bG (jd f deep) l (σ,.ready))=.go m):I m.1/\m.2=.ready:=by
 cases hr:bG (jd f deep) l (σ,.ready)with
 |go q=>
  rw[hr]at h;cases h;exact⟨Bv (f:=jd f deep) (s':=q) (I:=λm:S×Lp=>I m.1) (A:=A) (λs a s' h1 h2 h3=>EQ hi h1 h2 (.inl h3)) l _ hl hs hr,rfl⟩
 |stop q=>
  obtain⟨t,a,h1,h2,h3⟩:=ac1 (J:=λm:S×Lp=>I m.1) (A:=A) (λs a s' h1 h2 h3=>EQ hi h1 h2 (.inl h3)) hl hs hr;rw[hr]at h;obtain⟨q1,q2⟩:=q;cases q2 with
  |ret=>cases h
  |ready=>cases h;exact⟨EQ (m':=(q1,.ready)) hi h1 h2 (.inr ⟨h3,by simp⟩),rfl⟩
  |exit i=>cases h;exact⟨EQ (m':=(q1,.exit i)) hi h1 h2 (.inr ⟨h3,by simp⟩),rfl⟩
  |busy=>cases h;exact⟨EQ (m':=(q1,.busy)) hi h1 h2 (.inr ⟨h3,by simp⟩),rfl⟩
 |bad q=>rw[hr]at h;cases h
end Go.Gg.Tk
namespace Go.Gg
open Go.Conc Go.Proofs Go.Gg.Tk
namespace Tk
def nK (l:List Nat)(i:Nat):List Nat:=l.take i++TM (3-i) 0
theorem agS{l:List Nat}{i q:Nat}(h:l[i]?=some q)(hl:l.length<=3):(nK l i).set i q=nK l (i+1):=by
 have hi:=eX h;unfold nK;rw[Ud _ _ (by simp;omega),show i-(l.take i).length=0 by simp;omega,show 3-i=(3-(i+1))+1 by omega,Wy,T9,WC,h];simp
theorem P3{l:List Nat}{i:Nat}(hi:i<=l.length)(hl:l.length<=3):(nK l i).length=3:=by simp[nK];omega
theorem agR{l:List Nat}:nK l l.length=l++TM (3-l.length) 0:=by simp[nK]
theorem acm:∀{qs:List Nat}{u:Nat}{t ns:List Nat},ns∈k_ qs u t->ns.length=t.length+qs.length
 |[],u,t,ns,h=>by
  simp only[k_,S9]at h;subst h;rfl
 |q::qs,u,t,ns,h=>by
  simp only[k_,S5]at h;obtain⟨n,_,h⟩:=h;split at h
  ·cases h
  ·have:=acm h;simp at this⊢;omega
theorem NK{x:ak}{h:List Int}{ns:List Nat}(hm:ns∈gg x h):ns.length=x.pieces.length:=by
 have:=acm hm;simpa using this
def HS (k:Nat)(a:List Int):List Nat:=((a.drop 4).take k).map Yb
theorem aoH{h:List Int}{ns:List Nat}(h4:h.length=4):HS ns.length (dZ h ns)=ns:=by
 unfold HS dZ lP;rw[SC,VA,T7 (by omega),h4,UN,Vl,XD,SC,TB (by simp),SV (by simp),WR]
 conv=>rhs;rw[<- List.map_id ns]
 exact VF λn _=>by simp
def vN (x:ak)(h:List Int)(a:List Int):List (List Int):=(iE x h (HS x.pieces.length a)).map (dE h (HS x.pieces.length a))
theorem M0{x:ak}{h:List Int}{ns:List Nat}(h4:h.length=4)(hn:ns.length=x.pieces.length):vN x h (dZ h ns)=(iE x h ns).map (dE h ns):=by
 unfold vN;rw[<- hn,aoH h4]
theorem ata{x:ak}{h:List Int}{deep:Int}(h4:h.length=4):jA x deep h=sC deep (((gg x h).map (dZ h)).map (vN x h)):=by
 rw[WR];have:(gg x h).map (vN x h∘dZ h)=(gg x h).map λns=>(iE x h ns).map λos=>dE h ns os:=VF λns hm=>M0 h4 (NK hm);rw[this];rfl
end Tk
section
variable {lv:Bool}
theorem Kk{H:List aa}{k kp:AV->List aa->Prop}{x:ak}{h:List Int}{deep:Int}(hk:k (.fn (.func 91) [] [.op H.length 0,.op (H.length+1) 0,.op (H.length+2) 0]) (H++[.cells x.l 76,.cells (h.map iv) 83,.cells [iv deep] 3])):bc lv SA 66 H [x.av,.agg (h.map iv),iv deep] k kp:=by
 refine bD (rs:=[.tmp 6]) (nt:=8) Tryz.f66 λhH hA=> ?_;simp only[bk,SU,ak.av];refine aj ?_;refine ah ?_;simp only[seval,Ue,UH,Um,TU];refine aZ ?_;exact b8 hk
theorem Kq{x:ak}{h:List Int}{deep:Int}{N ir ih id:Nat}{yv pv:AV}{S:Type}{f:S->List Int->dG S}{Gf:S->List aa}{I:S->Prop}{A:List Int->Prop}{σ:S}{k kp:AV->List aa->Prop}(hx:x.Ok)(hh:mX h)(hY:j6 lv SA yv f Gf N I A pv)(hr:∀σ L,(Gf σ++L)[ir]?=some (.cells x.l 76))(hi:∀σ L,(Gf σ++L)[ih]?=some (.cells (h.map iv) 83))(hd:∀σ L,(Gf σ++L)[id]?=some (.cells [iv deep] 3))
  (mI:∀n,Lt n pv) (hI:I σ) (qE:∀a,A a->a.length=11) (hA:∀ns∈gg x h,∀a∈(iE x h ns).map (dE h ns),A a) (hk:gk Gf pv k kp [] (bG f (jA x deep h) σ)):bc lv SA 91 (Gf σ) [yv,.op ir 0,.op ih 0,.op id 0] k kp:=by
 refine Rw (rs:=[]) (nt:=44) F.f91 rfl rfl rfl (by simp) λhH u9=> ?_;simp only[bk,SU];have hN:=hY.len σ;have yR:=hx.dp;have bS:x.l=[iv x.first,iv x.hours,iv x.am,dt x.seen,aT x.pieces,aT x.aC]:=rfl;have nS:(h.map iv).length=4:=by rw[Ta,hh.len]
 refine nJ ?_;refine ah ?_;simp only[seval,hY.parts];refine agE ?_;refine nJ ?_;refine aj ?_;refine Jq ?_;refine nJ ?_;refine ah ?_;simp only[seval,hr,bS,aT];refine Jp ?_;refine bU ?_;refine eI x.aC.length (λi:Nat=>[(14,iv i)]) (λi=>Gf σ++[.cells [yv] 132,.cells ((nK (x.aC.map (cm h)) i).map λn=>wv n) 81]) (λi=>True) (λ_ _=>rfl) (by simp only[seval];simp[a_,Wk.refl]) rfl (λ_ _ _=>by simp) trivial (λbC bW i cK _ R hR=> ?_);refine aj ?_;refine aD ?_;refine⟨λhc=> ?_,λhc=> ?_⟩
 ·have bx:i<x.aC.length:=by omega
  obtain⟨y,hy⟩:=bK bx;have vJ:(x.aC.map (cm h))[i]?=some (cm h y):=by rw[To,hy];rfl
  have b3:(0<=(i:Int)/\(i:Int)<3)=True:=by simp;omega
  have bJ:SD.wrap ((i:Int)+1)=((i+1:Nat):Int):=by rw[br _ (by omega)];rfl
  have cR:(nK (x.aC.map (cm h)) i).length=3:=P3 (by simp;omega) (by simpa using yR);have wQ:((nK (x.aC.map (cm h)) i).map λn=>wv n).length=3:=by rw[Ta,cR]
  refine aK ?_;refine ah ?_;simp only[seval,BA hy,jh bx];refine ah ?_;simp only[seval,hi,nS];rw[SV (i:=4) (l:=h.map iv) (by rw[nS];exact SP _)];refine aH ((F3 (h:=h) (y:=y) hh ?_));(try simp only[seval,b3,wQ]);refine⟨by omega,?_⟩;rw[Oz (g:=λn=>wv n) (show i<(nK (x.aC.map (cm h)) i).length by omega),agS vJ (by simpa using yR)];refine ah ?_;simp only[seval,bJ];exact hR _ ⟨bx,trivial,Bu (lL rfl rfl) (by simp only[seval];simp[a_,Wk.refl]) (aaP (L:=[_]) bC (acu _ _)) (by simp[ec])⟩
 have:i=x.aC.length:=by omega
 subst this;clear hc cK;refine bR ?_;have A1:∃r,nK (x.aC.map (cm h)) x.aC.length=x.aC.map (cm h)++r:=⟨_,by
  have:=agR (l:=x.aC.map (cm h));simpa using this⟩
 have yO:(nK (x.aC.map (cm h)) x.aC.length).length=3:=P3 (by simp) (by simpa using yR);have Mi:((nK (x.aC.map (cm h)) x.aC.length).map λn=>wv n).length=3:=by rw[Ta,yO]
 generalize nK (x.aC.map (cm h)) x.aC.length=qs at A1 yO Mi;refine nJ ?_;(repeat apply gp);refine PN ?_;simp only[seval];refine nJ ?_;refine ah ?_;simp only[seval,hr,bS,hi,nS];rw[SV (i:=4) (l:=h.map iv) (by rw[nS];exact SP _)];refine aH ((ajy (x:=x) (h:=h) ?_));(try simp only[seval]);refine agB ?_;refine agD (by rfl) λl fn T ag bo hT yr qJ=> ?_;(try simp only[seval]);rw[hN]at hT⊢;have h4:=hh.len;have akD:j6 lv SA (.fn (.yield l) [] []) (qj f deep (vN x h)) (λm:S×Lp=>Gf m.1++[.cells [yv] 132,.cells (qs.map λn=>wv n) 81,.cells x.l 76,.cells (h.map iv) 83,.obj (.deferred (some [])),.loop l m.2.st m.2.pe fn T 44 #[28] ag bo (N+4)]) (N+6) (λm=>I m.1/\m.2=.ready) (λa=>∃ns∈gg x h,a=dZ h ns) pv:=by
  have g3:∀(σ:S)(L:List aa),(Gf σ++L)[N+1]?=L[1]?:=λσ L=>hY.get σ L 1;have g5:∀(σ:S)(L:List aa),(Gf σ++L)[N+5]?=L[5]?:=λσ L=>hY.get σ L 5;have s5:∀(σ:S)(L:List aa) y,(Gf σ++L).set (N+5) y=Gf σ++L.set 5 y:=λσ L y=>hY.set σ L 5 y;refine⟨λm a M k kp hm ha dK=> ?_,λm a m' hm ha he=> ?_,λm=>by simp[hY.len],λq m m' hz z fl=> ?_,rfl,rfl,rfl⟩
  ·obtain⟨σ,lp⟩:=m;obtain⟨KT,hO⟩:=hm;replace KT:I σ:=KT;replace hO:lp=.ready:=hO;subst hO;obtain⟨ns,iL,rfl⟩:=ha;have iZ:=NK iL;have od:(dZ h ns).length=11:=(by simp[dZ,h4,Bq (k:=4) (l:=ns) (by have:=hx.ey;omega)]);have A6:((dZ h ns).map iv).length=11:=(by rw[Ta,od]);obtain⟨Lo,lA⟩:∃Lo,Lo=aa.loop l .busy none fn T 44 #[28] ag bo (N+4):=⟨_,rfl⟩;obtain⟨P1,dB⟩:∃P1:S->List aa,∀σ,P1 σ=Gf σ++([.cells [yv] 132,.cells (qs.map λn=>wv n) 81,.cells x.l 76,.cells (h.map iv) 83,.obj (.deferred (some [])),Lo]++M):=⟨_,λ_=>rfl⟩;have eC:∀σ,(P1 σ).length=N+6+M.length:=λσ=>(by rw[dB];simp[hY.len];omega);have pg:∀(σ:S)(L:List aa)(i:Nat),i<6->(P1 σ++L)[N+i]?=[aa.cells [yv] 132,.cells (qs.map λn=>wv n) 81,.cells x.l 76,.cells (h.map iv) 83,.obj (.deferred (some [])),Lo][i]?:=λσ L i LJ=>by
    rw[dB,SC,hY.get,SC,SY (by simpa using LJ)]
   have pr:∀(σ:S)(L:List aa),(P1 σ++L)[ir]?=some (.cells x.l 76):=λσ L=>(by rw[dB,SC];exact hr σ _);have pd:∀(σ:S)(L:List aa),(P1 σ++L)[id]?=some (.cells [iv deep] 3):=λσ L=>(by rw[dB,SC];exact hd σ _);have pb:∀(σ:S)(L:List aa)(i:Nat),(P1 σ++L)[N+6+M.length+i]?=L[i]?:=λσ L i=>(by rw[<- eC σ,aW]);have xo:∀(σ:S)(L:List aa),(P1 σ++L)[N+6+M.length]?=L[0]?:=λσ L=>pb σ L 0;have pg1:∀(σ:S)(L:List aa),(P1 σ++L)[N+1]?=some (.cells (qs.map λn=>wv n) 81):=λσ L=>pg σ L 1 (by omega);have pg0:∀(σ:S)(L:List aa),(P1 σ++L)[N]?=some (.cells [yv] 132):=λσ L=>pg σ L 0 (by omega);have aaj:∀(τ:S)(lp:Lp),bF (Gf σ++(([aa.cells [yv] 132,.cells (qs.map λn=>wv n) 81,.cells x.l 76,.cells (h.map iv) 83,.obj (.deferred (some [])),.loop l .ready none fn T 44 #[28] ag bo (N+4)]:List aa)++M))->bF (Gf τ++(([aa.cells [yv] 132,.cells (qs.map λn=>wv n) 81,.cells x.l 76,.cells (h.map iv) 83,.obj (.deferred (some [])),.loop l lp.st lp.pe fn T 44 #[28] ag bo (N+4)]:List aa)++M)):=λτ lp iz z hz=>by
    have hlen:(Gf τ++(([aa.cells [yv] 132,.cells (qs.map λn=>wv n) 81,.cells x.l 76,.cells (h.map iv) 83,.obj (.deferred (some [])),.loop l lp.st lp.pe fn T 44 #[28] ag bo (N+4)]:List aa)++M)).length=(Gf σ++(([aa.cells [yv] 132,.cells (qs.map λn=>wv n) 81,.cells x.l 76,.cells (h.map iv) 83,.obj (.deferred (some [])),.loop l .ready none fn T 44 #[28] ag bo (N+4)]:List aa)++M)).length:=(by simp[hY.len]);have hl:=iz (.loop l .ready none fn T 44 #[28] ag bo (N+4)) (by simp);rw[hlen];rcases SS.1 hz with h'|h'
    ·exact hY.ok _ σ τ (λw hw=>iz w (Th _ hw)) z h'
    ·rcases SS.1 h' with h'|h'
     ·simp only[SK,SZ,or_false]at h';rcases h' with rfl|rfl|rfl|rfl|rfl|rfl
      ·exact iz _ (by simp)
      ·exact iz _ (by simp)
      ·exact iz _ (by simp)
      ·exact iz _ (by simp)
      ·exact iz _ (by simp)
      ·exact hl
     ·exact iz z (S4 _ (S4 _ h'))
   have Ks:bF (Gf σ++(([aa.cells [yv] 132,.cells (qs.map λn=>wv n) 81,.cells x.l 76,.cells (h.map iv) 83,.obj (.deferred (some [])),.loop l .ready none fn T 44 #[28] ag bo (N+4)]:List aa)++M))->∀(τ:S)(lp:Lp)(b':Bool)(TT:List (Nat×AV))(L:List aa),k (bv b') ((Gf τ++[.cells [yv] 132,.cells (qs.map λn=>wv n) 81,.cells x.l 76,.cells (h.map iv) 83,.obj (.deferred (some [])),.loop l lp.st lp.pe fn T 44 #[28] ag bo (N+4)])++M)->py (N+5) (N+6+M.length) k lp.st lp.pe b' ⟨TT,P1 τ++L⟩:=λiz τ lp b' TT L dK=>by
    refine⟨l,.busy,none,fn,T,44,#[28],ag,bo,N+4,by show (P1 τ++L)[_]?=_;rw[pg τ _ 5 (by omega),lA];rfl,?_⟩;show cJ (N+6+M.length) ((P1 τ++L).set _ _) _ k;rw[dB,SC,s5];rw[SC]at dK;exact jI (G:=L) (Wk.refl _) (by simp) (by simp[hY.len];omega) (aaj τ lp iz) (.val _) dK
   have ajO:bF (Gf σ++(([aa.cells [yv] 132,.cells (qs.map λn=>wv n) 81,.cells x.l 76,.cells (h.map iv) 83,.obj (.deferred (some [])),.loop l .ready none fn T 44 #[28] ag bo (N+4)]:List aa)++M))->∀(τ:S)(L:List aa),kp pv ((Gf τ++[.cells [yv] 132,.cells (qs.map λn=>wv n) 81,.cells x.l 76,.cells (h.map iv) 83,.obj (.deferred (some [])),.loop l Lp.busy.st Lp.busy.pe fn T 44 #[28] ag bo (N+4)])++M)->cJ (N+6+M.length) (P1 τ++L) pv kp:=λiz τ L dK=>by
    rw[SC]at dK;rw[dB,lA];exact jI (G:=L) (Wk.refl _) rfl (by simp[hY.len];omega) (aaj τ .busy iz) (mI _) dK
   subst hT yr qJ;rw[SC];refine wA (id:=N+5) (by rw[g5];rfl) rfl (by kernel_rfl) λoN KO=> ?_;simp only[sP];have wT:T5 11 [iv 0,iv 0,iv 0,iv 0,iv 0,iv 0,iv 0,iv 0,iv 0,iv 0,iv 0]=[]:=rfl;refine ah ?_;simp only[seval,od,wT];unfold uK;refine⟨none,fn,_,44,#[28],_,_,_,by rw[g5];rfl,?_⟩;dsimp only;rw[s5];simp only[UK,T9];rw[<- lA];have ym:(Gf σ).length+(M.length+1+1+1+1+1+1)=N+6+M.length:=(by rw[hY.len];omega);rw[ym];have yD:∀z:aa,Gf σ++aa.cells [yv] 132::aa.cells (Vf (λn=>wv n) qs) 81::aa.cells x.l 76::aa.cells (Vf iv h) 83::aa.obj (avA (some []))::Lo::(M++[z])=P1 σ++[z]:=λz=>(by rw[dB];simp);rw[yD];refine ah ?_;simp only[seval,pr,bS,xo,pg1,A6,od,Mi,yO];rw[SV (i:=11) (l:=(dZ h ns).map iv) (by rw[A6];exact SP _),SV (i:=3) (l:=qs.map λn=>wv n) (by rw[Mi];exact SP _)];refine aH ((ajz (x:=x) (tc:=dZ h ns) (qs:=qs) ?_));(try simp only[seval]);refine bU ?_;have oY:∀(σ:S)(a b c d:aa),(P1 σ++[a,b,c,d]).length=N+6+M.length+4:=λσ a b c d=>(by simp[eC]);refine FK (N+5) (by rfl) (by show (P1 σ++_)[N+5]?=_;rw[pg σ _ 5 (by omega),lA];rfl) λl2 eW T2 gI gJ oO yu yx=> ?_;simp only[seval];rw[eC]at oO⊢;have Bi:∀(σ τ:S)(L L':List aa),L'.length=L.length->(∀q,(∀z∈L,e_ q z)->∀z∈L',e_ q z)->bF (P1 σ++L)->bF (P1 τ++L'):=λσ τ L L' hl hL hH z hz=>by
    have hlen:(P1 τ++L').length=(P1 σ++L).length:=(by simp[eC,hl]);rw[hlen];rcases SS.1 hz with h'|h'
    ·rw[dB]at h';rcases SS.1 h' with h'|h'
     ·exact hY.ok _ σ τ (λw hw=>hH w (Th _ (by rw[dB];exact Th _ hw))) z h'
     ·exact hH z (Th _ (by rw[dB];exact S4 _ h'))
    ·exact hL _ (λw hw=>hH w (S4 _ hw)) z h'
   have yq:∀tc:List Int,j6 lv SA (.fn (.yield l2) [] []) (jd f deep) (λm:S×Lp=>P1 m.1++[.cells ((dZ h ns).map iv) 86,.cells x.l 76,.cells (tc.map iv) 86,.cells (qs.map λn=>wv n) 81,.loop l2 m.2.st m.2.pe eW T2 44 #[33] gI gJ (N+4)]) (N+6+M.length+5) (λm=>I m.1/\m.2=.ready) A pv:=λtc=>by
    refine⟨λm b M2 k2 y_ hm hb lG=> ?_,λm b m' hm hb he=> ?_,λm=>by simp[eC],λq m m' hz z fl=> ?_,rfl,rfl,rfl⟩
    ·obtain⟨σ',lp⟩:=m;obtain⟨KU,hO⟩:=hm;replace KU:I σ':=KU;replace hO:lp=.ready:=hO;subst hO;have cR:b.length=11:=qE b hb;have wQ:(b.map iv).length=11:=(by rw[Ta,cR]);obtain⟨qq,tE⟩:∃Lo,Lo=aa.loop l2 .busy none eW T2 44 #[33] gI gJ (N+4):=⟨_,rfl⟩;obtain⟨Q1,gr⟩:∃Q1:S->List aa,∀σ,Q1 σ=P1 σ++([.cells ((dZ h ns).map iv) 86,.cells x.l 76,.cells (tc.map iv) 86,.cells (qs.map λn=>wv n) 81,qq]++M2):=⟨_,λ_=>rfl⟩;obtain⟨C,hC⟩:∃C,C=N+6+M.length+5+M2.length:=⟨_,rfl⟩;have K0:∀σ,(Q1 σ).length=C:=λσ=>(by rw[gr,hC];simp[eC];omega);have mq:∀(σ:S)(L:List aa),(P1 σ++L)[N+6+M.length+4]?=L[4]?:=λσ L=>pb σ L 4;have qi:∀(σ:S)(L:List aa)(y:aa),(P1 σ++L).set (N+6+M.length+4) y=P1 σ++L.set 4 y:=λσ L y=>(by rw[<- eC σ,dL]);have qN:∀(σ:S)(L:List aa),(Q1 σ++L)[N]?=some (.cells [yv] 132):=λσ L=>(by rw[gr,SC];exact pg0 σ _);have qd:∀(σ:S)(L:List aa),(Q1 σ++L)[id]?=some (.cells [iv deep] 3):=λσ L=>(by rw[gr,SC];exact pd σ _);have q4:∀(σ:S)(L:List aa),(Q1 σ++L)[N+6+M.length+4]?=some qq:=λσ L=>(by rw[gr,SC,mq];rfl);have qc:∀(σ:S)(L:List aa),(Q1 σ++L)[C]?=L[0]?:=λσ L=>(by rw[<- K0 σ];exact aW _ L 0);have Oi:∀(σ:S)(L:List aa)(y:aa),(Q1 σ++L).set (N+6+M.length+4) y=(P1 σ++([.cells ((dZ h ns).map iv) 86,.cells x.l 76,.cells (tc.map iv) 86,.cells (qs.map λn=>wv n) 81,y]++M2))++L:=λσ L y=>(by rw[gr,SC,qi];simp);obtain⟨Mz,Gj⟩:∃Mz:List aa,∀σ,Q1 σ++[.cells (b.map iv) 86]=Gf σ++Mz:=⟨_,λσ=>by rw[gr,dB,SC,SC]⟩;have fK:∀(τ:S)(lp:Lp),bF (P1 σ'++([.cells ((dZ h ns).map iv) 86,.cells x.l 76,.cells (tc.map iv) 86,.cells (qs.map λn=>wv n) 81,.loop l2 .ready none eW T2 44 #[33] gI gJ (N+4)]++M2))->bF (P1 τ++([.cells ((dZ h ns).map iv) 86,.cells x.l 76,.cells (tc.map iv) 86,.cells (qs.map λn=>wv n) 81,.loop l2 lp.st lp.pe eW T2 44 #[33] gI gJ (N+4)]++M2)):=λτ lp iz=>Bi σ' τ _ _ (by simp) (λq hz z fl=>by
      have hl:=hz (.loop l2 .ready none eW T2 44 #[33] gI gJ (N+4)) (by simp);rcases SS.1 fl with h'|h'
      ·simp only[SK,SZ,or_false]at h';rcases h' with rfl|rfl|rfl|rfl|rfl
       ·exact hz _ (by simp)
       ·exact hz _ (by simp)
       ·exact hz _ (by simp)
       ·exact hz _ (by simp)
       ·exact hl
      ·exact hz _ (S4 _ h')) iz
     have gC:cZ (λm:S×Lp=>P1 m.1++[.cells ((dZ h ns).map iv) 86,.cells x.l 76,.cells (tc.map iv) 86,.cells (qs.map λn=>wv n) 81,.loop l2 m.2.st m.2.pe eW T2 44 #[33] gI gJ (N+4)]) pv k2 y_ M2 (jd f deep (σ',.ready) b):=lG;have Lv:∀z:aa,P1 σ'++(aa.cells (Vf iv (dZ h ns)) 86::aa.cells x.l 76::aa.cells (Vf iv tc) 86::aa.cells (Vf (λn=>wv n) qs) 81::qq::(M2++[z]))=Q1 σ'++[z]:=λz=>(by rw[gr];simp);have F6:bF (P1 σ'++([.cells ((dZ h ns).map iv) 86,.cells x.l 76,.cells (tc.map iv) 86,.cells (qs.map λn=>wv n) 81,.loop l2 .ready none eW T2 44 #[33] gI gJ (N+4)]++M2))->∀(τ:S)(lp:Lp)(b':Bool)(TT:List (Nat×AV)),k2 (bv b') ((P1 τ++[.cells ((dZ h ns).map iv) 86,.cells x.l 76,.cells (tc.map iv) 86,.cells (qs.map λn=>wv n) 81,.loop l2 lp.st lp.pe eW T2 44 #[33] gI gJ (N+4)])++M2)->py (N+6+M.length+4) C k2 lp.st lp.pe b' ⟨TT,Gf τ++Mz⟩:=λiz τ lp b' TT dK=>by
      refine⟨l2,.busy,none,eW,T2,44,#[33],gI,gJ,N+4,by show (Gf τ++Mz)[_]?=_;rw[<- Gj,q4,tE],?_⟩;show cJ C ((Gf τ++Mz).set _ _) _ k2;rw[<- Gj,Oi];rw[SC]at dK;exact jI (G:=[.cells (b.map iv) 86]) (Wk.refl _) rfl (by rw[hC];simp[eC];omega) (fK τ lp iz) (.val _) dK
     have ajN:bF (P1 σ'++([.cells ((dZ h ns).map iv) 86,.cells x.l 76,.cells (tc.map iv) 86,.cells (qs.map λn=>wv n) 81,.loop l2 .ready none eW T2 44 #[33] gI gJ (N+4)]++M2))->∀τ:S,y_ pv ((P1 τ++[.cells ((dZ h ns).map iv) 86,.cells x.l 76,.cells (tc.map iv) 86,.cells (qs.map λn=>wv n) 81,.loop l2 Lp.busy.st Lp.busy.pe eW T2 44 #[33] gI gJ (N+4)])++M2)->cJ C (Gf τ++Mz) pv y_:=λiz τ dK=>by
      rw[<- Gj,gr,tE];rw[SC]at dK;exact jI (G:=[.cells (b.map iv) 86]) (Wk.refl _) rfl (by rw[hC];simp[eC];omega) (fK τ .busy iz) (mI _) dK
     subst oO yu yx;rw[SC];refine wA (id:=N+6+M.length+4) (by rw[mq];rfl) rfl (by kernel_rfl) λrS KP=> ?_;simp only[sP];refine ah ?_;simp only[seval,cR,wT];unfold uK;refine⟨none,eW,_,44,#[33],_,_,_,by rw[mq];rfl,?_⟩;dsimp only;rw[qi];simp only[UK,T9];rw[<- tE];have CQ:(P1 σ').length+(M2.length+1+1+1+1+1)=C:=(by rw[eC,hC];omega);rw[CQ,Lv];refine ah ?_;simp only[seval,qN,qc,cR,wQ];rw[SV (i:=11) (l:=b.map iv) (by rw[wQ];exact SP _),Gj];refine xZ (hY.call σ' b Mz _ _ KU hb ?_);unfold jd at gC;rw[show f (σ',Lp.ready).1 b=f σ' b from rfl]at gC;cases hf:f σ' b with
     |go τ=>
      rw[hf]at gC;dsimp only at gC;simp only[cZ];(try simp only[seval,hd]);refine aD ?_;refine⟨λh0=> ?_,λh0=> ?_⟩
      ·replace h0:deep=0:=(by simpa using h0);rw[if_pos h0]at gC;simp only[cZ]at gC;refine aZ ?_;exact F6 rS τ .ret false _ gC
      ·replace h0:¬deep=0:=(by simpa using h0);rw[if_neg h0]at gC;refine aK ?_;refine ah ?_;simp only[seval,hd];refine aD ?_;refine⟨λh1=> ?_,λh1=> ?_⟩
       ·replace h1:deep=1:=(by simpa using h1);rw[if_pos h1]at gC;simp only[cZ]at gC;refine bR ?_;exact F6 rS τ (.exit 3) false _ gC
       ·replace h1:¬deep=1:=(by simpa using h1);rw[if_neg h1]at gC;simp only[cZ]at gC;refine aK ?_;exact F6 rS τ .ready true _ gC
     |stop τ=>
      rw[hf]at gC;dsimp only at gC;simp only[cZ]at gC⊢;(try simp only[seval]);refine aD ?_;refine aZ ?_;exact F6 rS τ .ret false _ gC
     |bad τ=>
      rw[hf]at gC;dsimp only at gC;simp only[cZ]at gC⊢;exact ajN rS τ gC
    ·obtain⟨σ',lp⟩:=m;obtain⟨τ,Ee⟩:=m';unfold jd at he;have hi:=(hY.inv σ' b τ hm.1 hb);cases hf:f σ' b with
     |go τ'=>
      rw[show f (σ',lp).1 b=f σ' b from rfl,hf]at he;dsimp only at he;by_cases h0:deep=0
      ·rw[if_pos h0]at he;cases he
      ·rw[if_neg h0]at he;by_cases h1:deep=1
       ·rw[if_pos h1]at he;cases he
       ·rw[if_neg h1]at he;cases he;exact⟨hi hf,rfl⟩
     |stop τ'=>rw[show f (σ',lp).1 b=f σ' b from rfl,hf]at he;cases he
     |bad τ'=>rw[show f (σ',lp).1 b=f σ' b from rfl,hf]at he;cases he
    ·rcases SS.1 fl with h'|h'
     ·rw[dB]at h';rcases SS.1 h' with h'|h'
      ·exact hY.ok q m.1 m'.1 (λw hw=>hz w (Th _ (by rw[dB];exact Th _ hw))) z h'
      ·exact hz z (Th _ (by rw[dB];exact S4 _ h'))
     ·have hl:=hz _ (S4 _ (S8 (i:=4) rfl));simp only[SK,SZ,or_false]at h';rcases h' with rfl|rfl|rfl|rfl|rfl
      ·exact hz _ (S4 _ (by simp))
      ·exact hz _ (S4 _ (by simp))
      ·exact hz _ (S4 _ (by simp))
      ·exact hz _ (S4 _ (by simp))
      ·exact hl
   have e1:qj f deep (vN x h) (σ,.ready) (dZ h ns)=ln (bG (jd f deep) ((iE x h ns).map (dE h ns)) (σ,.ready)):=(by unfold qj;rw[M0 h4 iZ]);rw[e1]at dK;refine cC (aiI (x:=x) (h:=h) (ns:=ns) (qs:=qs) (N:=N+6+M.length+5) (ir:=N+6+M.length+1) (it:=N+6+M.length+2) (is:=N+6+M.length+3) (tc:=dZ h ns) (σ:=(σ,Lp.ready)) hx h4 iZ yq (λtc m L=> ?_) (λtc m L=> ?_) (λtc eA m L=> ?_) (λtc m L=> ?_) A1 yO (λq tc eA m hz z fl=> ?_) mI rfl ⟨KT,rfl⟩ (hA ns iL) (λeA auW=> ?_))
   ·rw[SC];exact pb _ _ 1
   ·rw[SC];exact pb _ _ 2
   ·rw[SC,<- eC m.1,dL,SC];rfl
   ·rw[SC];exact pb _ _ 3
   ·rcases SS.1 fl with h'|h'
    ·exact hz z (Th _ h')
    ·simp only[SK,SZ,or_false]at h';rcases h' with rfl|rfl|rfl|rfl|rfl
     ·exact hz _ (by simp)
     ·exact hz _ (by simp)
     ·exact aoX _ _ _
     ·exact hz _ (by simp)
     ·exact hz _ (by simp)
   have mq:∀(σ:S)(L:List aa),(P1 σ++L)[N+6+M.length+4]?=L[4]?:=λσ L=>pb σ L 4;have qi:∀(σ:S)(L:List aa)(y:aa),(P1 σ++L).set (N+6+M.length+4) y=P1 σ++L.set 4 y:=λσ L y=>(by rw[<- eC σ,dL]);cases cK:bG (jd f deep) ((iE x h ns).map (dE h ns)) (σ,.ready)with
   |go m=>
    obtain⟨τ,lp⟩:=m;have hO:lp=.ready:=Bv (I:=λm:S×Lp=>m.2=.ready) (A:=λ_=>True) (λs a s' _ _ e=>as0 e) _ _ _ (λ_ _=>trivial) rfl cK;subst hO;rw[cK]at dK;simp only[ln,cZ]at dK;simp only[gk,SO];refine⟨.ready,none,_,_,_,_,_,_,_,by rw[mq];rfl,by decide,?_⟩;rw[qi,Ic];(try simp only[seval]);exact Ks oN τ .ready true _ _ dK
   |stop m=>
    obtain⟨τ,lp⟩:=m;have hO:lp=.ret\/lp=.exit 3:=by
     obtain⟨_,_,q⟩:=Oq cK;exact as1 q
    rw[cK]at dK;rcases hO with rfl|rfl
    ·simp only[ln,cZ]at dK;simp only[gk,SO];refine⟨.done,some .ret,_,_,_,_,_,_,_,by rw[mq];rfl,by decide,?_⟩;rw[qi,apD];(try simp only[seval]);exact Ks oN τ .ret false _ _ dK
    ·simp only[ln,cZ]at dK;simp only[gk,SO];refine⟨.done,some (.exit 3),_,_,_,_,_,_,_,by rw[mq];rfl,by decide,?_⟩;rw[qi,apC];(try simp only[seval]);exact Ks oN τ .ready true _ _ dK
   |bad m=>
    obtain⟨τ,lp⟩:=m;rw[cK]at dK;simp only[ln,cZ]at dK;simp only[gk,SO];exact ajO oN τ _ dK
  ·obtain⟨σ',lp⟩:=m;obtain⟨τ,Ee⟩:=m';obtain⟨ns,iL,rfl⟩:=ha;have e1:qj f deep (vN x h) (σ',lp) (dZ h ns)=ln (bG (jd f deep) ((iE x h ns).map (dE h ns)) (σ',.ready)):=(by unfold qj;rw[M0 h4 (NK iL)]);rw[e1]at he;exact afJ hY.inv (hA ns iL) hm.1 he
  ·rcases SS.1 fl with h'|h'
   ·exact hY.ok q m.1 m'.1 (λw hw=>hz w (Th _ hw)) z h'
   ·have hl:=hz _ (S4 _ (S8 (i:=5) rfl));simp only[SK,SZ,or_false]at h';rcases h' with rfl|rfl|rfl|rfl|rfl|rfl
    ·exact hz _ (S4 _ (by simp))
    ·exact hz _ (S4 _ (by simp))
    ·exact hz _ (S4 _ (by simp))
    ·exact hz _ (S4 _ (by simp))
    ·exact hz _ (S4 _ (by simp))
    ·exact hl
 obtain⟨ep,vE⟩:=aek (f:=f) (deep:=deep) (L:=vN x h) ((gg x h).map (dZ h)) σ;rw[<- ata h4]at ep;have g4:∀(σ:S)(L:List aa),(Gf σ++L)[N+4]?=L[4]?:=λσ L=>hY.get σ L 4;have g5:∀(σ:S)(L:List aa),(Gf σ++L)[N+4+1]?=L[5]?:=λσ L=>hY.get σ L 5;have s4:∀(σ:S)(L:List aa) y,(Gf σ++L).set (N+4) y=Gf σ++L.set 4 y:=λσ L y=>hY.set σ L 4 y;have s5:∀(σ:S)(L:List aa) y,(Gf σ++L).set (N+4+1) y=Gf σ++L.set 5 y:=λσ L y=>hY.set σ L 5 y;have sx:∀n,Lt n (.aO []):=λn=>by simp[jV]
 refine cC (aiG (x:=x) (h:=h) (N:=N+6) (ir:=N+2) (ih:=N+3) (σ:=(σ,Lp.ready)) hx hh akD (λm L=> ?_) (λm L=> ?_) mI ⟨hI,rfl⟩ (λa ha=> ?_) ?_)
 ·rw[SC,hY.get m.1 _ 2];rfl
 ·rw[SC,hY.get m.1 _ 3];rfl
 ·obtain⟨ns,h1,rfl⟩:=Tm.1 ha;exact⟨ns,h1,rfl⟩
 cases bL:bG (qj f deep (vN x h)) ((gg x h).map (dZ h)) (σ,.ready)with
 |go m=>
  obtain⟨σ',lp⟩:=m;have hO:lp=.ready:=vE _ bL;subst hO;rw[bL]at ep;have aJ:=Om (r':=.go σ') ep.symm hk;simp only[gk,SO]at aJ⊢;refine⟨.ready,none,_,_,_,_,_,_,_,by rw[g5];rfl,by decide,?_⟩;rw[s5];simp only[UK,T9];rw[Ib];(try simp only[seval]);rw[Aq (by rw[g4];rfl),Ar,s4];(try simp only[seval]);rw[<- hN];exact vZ hY hH sx aJ
 |stop m=>
  obtain⟨σ',lp⟩:=m;have hO:lp=.ret:=by
   obtain⟨_,_,q⟩:=Oq bL;exact asX q
  subst hO;rw[bL]at ep;have aJ:=Om (r':=.stop σ') ep.symm hk;simp only[gk,SO]at aJ⊢;refine⟨.done,some .ret,_,_,_,_,_,_,_,by rw[g5];rfl,by decide,?_⟩;rw[s5];simp only[UK,T9];rw[apB];(try simp only[seval]);rw[Aq (by rw[g4];rfl),Ar,s4];(try simp only[seval]);rw[<- hN];exact vZ hY hH sx aJ
 |bad m=>
  obtain⟨σ',lp⟩:=m;rw[bL]at ep;have aJ:=Om (r':=.bad σ') ep.symm hk;simp only[gk,SO]at aJ⊢;rw[Aq (by rw[g4];rfl),Ar,s4];rw[Bl,<- hN];exact vZ hY hH mI aJ
end
open Go.Conc Go.Proofs Go.Gg.Tk
namespace Tk
def na (x y:Int):Int:=if x<y then -1 else if y<x then 1 else 0
def oJ:List Int->List Int->Int
 |a::l,b::m=>if na a b≠0 then na a b else oJ l m
 |[],[]=>0
 |[],_::_=> -1
 |_::_,[]=>1
def te (a b:List Int):Bool:=if a.take 4=b.take 4 then(if oJ ((a.drop 4).take 4) ((b.drop 4).take 4)≠0 then decide (oJ ((a.drop 4).take 4) ((b.drop 4).take 4)<0)else decide (oJ (a.drop 8) (b.drop 8)<0))else decide (oJ (a.take 4) (b.take 4)<0)
end Tk
theorem F0{ca pa ra:List AV}{xs:List Int}{o i:Nat}{x:Int}(hc:ca=pa++(xs.map iv++ra))(ho:pa.length=o)(h:xs[i]?=some x):ca.drop (o+i)=iv x::((xs.drop (i+1)).map iv++ra):=by
 subst hc ho;rw[VA,T7 (by omega),UN,show pa.length+i-pa.length=i by omega,VA,lw h,show i-(xs.map iv).length=0 by have:=eX h;simp;omega,XD];rfl
section
variable {lv:Bool}{H:List aa}{k kp:AV->List aa->Prop}
theorem Q7{x:Int}(hk:k (bv false) H):bc lv SA 143 H [iv x] k kp:=by
 refine bD (rs:=[.tmp 2]) (nt:=6) Tryz.f143 λhH hA=> ?_;simp only[bk,SU];refine aj ?_;refine ah ?_;simp only[seval,bne_self_eq_false];refine aZ ?_;refine b8 ?_;simpa using hk
theorem aiL{x y:Int}(hk:k (iv (na x y)) H):bc lv SA 142 H [iv x,iv y] k kp:=by
 refine bD (rs:=[.tmp 4]) (nt:=20) Tryz.f142 λhH hA=> ?_;simp only[bk,SU];refine aj ?_;refine aj ?_;refine aH ((Q7 ?_));(try simp only[seval]);refine aj ?_;refine aH ((Q7 ?_));(try simp only[seval]);refine aj ?_;refine aD ?_;refine aK ?_;refine aj ?_;refine aD ?_;refine aK ?_;refine aj ?_;refine aD ?_;refine⟨λh=> ?_,λh=> ?_⟩
 ·refine aj ?_;refine aZ ?_;rw[na,if_pos h]at hk;exact b8 hk
 ·refine aK ?_;refine aj ?_;refine aD ?_;refine⟨λh2=> ?_,λh2=> ?_⟩
  ·refine aj ?_;refine aZ ?_;rw[na,if_neg h,if_pos h2]at hk;exact b8 hk
  ·refine aK ?_;refine aj ?_;refine aZ ?_;rw[na,if_neg h,if_neg h2]at hk;exact b8 hk
theorem Kd{xs ys:List Int}{ia oa ib ob ta tb:Nat}{ca cb pa ra pb rb:List AV}(ha:H[ia]?=some (.cells ca ta))(hb:H[ib]?=some (.cells cb tb))(hca:ca=pa++(xs.map iv++ra))(Md:pa.length=oa)(hcb:cb=pb++(ys.map iv++rb))(hpb:pb.length=ob)(hl:ys.length=xs.length)(h4:xs.length<=4)(hk:k (iv (oJ xs ys)) H):
  bc lv SA 138 H [.bz ia oa xs.length xs.length,.bz ib ob ys.length ys.length] k kp:=by
 refine bD (rs:=[.tmp 4]) (nt:=36) Tryz.f138 λhH hA=> ?_;simp only[bk,SU];refine aj ?_;refine aj ?_;refine bU ?_;refine uN xs.length (λi:Nat=>[(11,iv i)]) (λ_=>H) (λi=>oJ xs ys=oJ (xs.drop i) (ys.drop i)) rfl (λbC bW i cK hI R hR=> ?_);refine aj ?_;refine aD ?_;refine⟨λh=> ?_,λh=> ?_⟩
 ·have bx:i<xs.length:=by omega
  obtain⟨x,hx⟩:=bK bx;obtain⟨y,hy⟩:=bK (xs:=ys) (i:=i) (by omega);have bJ:SD.wrap ((i:Int)+1)=((i+1:Nat):Int):=by rw[br _ (by omega)];rfl
  have lI:oJ xs ys=if na x y≠0 then na x y else oJ (xs.drop (i+1)) (ys.drop (i+1)):=by rw[hI,wE hx,wE hy,oJ]
  refine aK ?_;refine ah ?_;simp only[seval,ha,jh bx,F0 hca Md hx];refine aj ?_;refine aD ?_;refine⟨λh2=>by exfalso;omega,λh2=> ?_⟩;refine aK ?_;refine ah ?_;simp only[seval,hb,jh (show i<ys.length by omega),F0 hcb hpb hy];refine aj ?_;refine aH ((aiL ?_));(try simp only[seval]);refine aj ?_;refine aD ?_;refine⟨λh3=> ?_,λh3=> ?_⟩
  ·refine aj ?_;refine aZ ?_;rw[lI,if_pos (by simpa using h3)]at hk;exact b8 hk
  ·refine aK ?_;refine ah ?_;simp only[seval,bJ];refine hR _ ⟨bx,?_,cz⟩;rw[lI,if_neg (by simpa using h3)]
 ·have dD:i=xs.length:=by omega
  subst dD;refine bR ?_;refine ah ?_;simp only[seval,hl];refine aD ?_;refine⟨λh2=>by exfalso;omega,λh2=> ?_⟩;refine aK ?_;refine aj ?_;refine aZ ?_;rw[hI,List.drop_length,T7 (WL hl),oJ]at hk;exact b8 hk
theorem F.EU:SA.underlying 83=some (.array 4 3):=by kernel_rfl
theorem F.u3:SA.underlying 3=some (.int .i64):=by kernel_rfl
theorem afu{P:SI}{t e:TypeId}{k0:T8}{n:Nat}{xs ys:List Int}(ht:P.underlying t=some (.array n e))(he:P.underlying e=some (.int k0))(hs:(P.info? e).map (·.size)=some 1)(hg:P.eqGuardType P.depth t=false)(hx:xs.length=n)(hy:ys.length=n)(k:AV->Prop):
  dM P .neq t (.agg (xs.map iv)) (.agg (ys.map iv)) k=k (bv (!(xs==ys))):=by
 obtain⟨i,hi,hs⟩:=Ts.1 hs;have DO:=adX ht he hi hs hx hy;have e:dM P .neq t (.agg (xs.map iv)) (.agg (ys.map iv)) k=((Wz=.eql\/Wz=.neq)/\ao (AV.raw (.agg (xs.map iv))) λX=>ao (AV.raw (.agg (ys.map iv))) λY=>Ak X Y=true/\P.eqGuardType P.depth t=false/\∃e,cP P (Xs t X Y) e/\k (.val (.bool (if Wz== .neq then !e else e)))):=rfl;rw[e,zr,zr,Bl,Bl];apply propext;constructor
 ·rintro⟨_,_,_,b,h1,h2⟩
  rw[DO.uniq h1];exact h2
 ·intro h;exact⟨.inr rfl,rfl,hg,_,DO,h⟩
theorem F.i3s:(SA.info? 3).map (·.size)=some 1:=by kernel_rfl
theorem F.g83:SA.eqGuardType SA.depth 83=false:=by kernel_rfl
theorem aiK{a b:List Int}(ha:a.length=11)(hb:b.length=11)(hk:k (bv (te a b)) H):bc lv SA 128 H [.agg (a.map iv),.agg (b.map iv)] k kp:=by
 refine bD (rs:=[.tmp 4]) (nt:=32) Tryz.f128 λhH hA=> ?_;simp only[bk,SU];have ham:(a.map iv).length=11:=by rw[Ta,ha]
 have wQ:(b.map iv).length=11:=by rw[Ta,hb]
 have ea:a.map iv=(a.take 4).map iv++(((a.drop 4).take 4).map iv++(a.drop 8).map iv):=by
  rw[<- Tn,<- Tn];congr 1;have:(a.drop 4).take 4++a.drop 8=a.drop 4:=by
   conv=>rhs;rw[<- Vr 4 (a.drop 4)]
   rw[ap_]
  rw[this,Vr]
 have eb:b.map iv=(b.take 4).map iv++(((b.drop 4).take 4).map iv++(b.drop 8).map iv):=by
  rw[<- Tn,<- Tn];congr 1;have:(b.drop 4).take 4++b.drop 8=b.drop 4:=by
   conv=>rhs;rw[<- Vr 4 (b.drop 4)]
   rw[ap_]
  rw[this,Vr]
 refine aj ?_;refine ah ?_;simp only[seval,ham,wQ,ha,hb];have He:(a.take 4).length=4:=by simp[ha]
 have MB:(b.take 4).length=4:=by simp[hb]
 have My:((a.drop 4).take 4).length=4:=by simp[ha]
 have aa4:((b.drop 4).take 4).length=4:=by simp[hb]
 have MA:(a.drop 8).length=3:=by simp[ha]
 have aa5:(b.drop 8).length=3:=by simp[hb]
 rw[<- Wa,<- Wa,afu F.EU F.u3 F.i3s F.g83 He MB];refine aD ?_;refine⟨λh=> ?_,λh=> ?_⟩
 ·refine eO 4 ?_;simp only[seval];have c1:=λk kp=>Kd (lv:=lv) (k:=k) (kp:=kp) (H:=H++[.cells (a.map iv) 86,.cells (b.map iv) 86]) (xs:=a.take 4) (ys:=b.take 4) (ia:=H.length) (ib:=H.length+1) (oa:=0) (ob:=0) (pa:=[]) (pb:=[]) (aW H _ 0) (aW H _ 1) ea rfl eb rfl (by rw[He,MB]) (by rw[He];exact SP _);simp only[He,MB]at c1;refine aH ((c1 _ _ ?_));(try simp only[seval]);refine aZ ?_;rw[te,if_neg (by simpa using h)]at hk;exact jj hH hk
 ·have h:=(by simpa using h:a.take 4=b.take 4);rw[te,if_pos h]at hk;refine aK ?_;refine eO 4 ?_;simp only[seval];have c2:=λk kp=>Kd (lv:=lv) (k:=k) (kp:=kp) (H:=H++[.cells (a.map iv) 86,.cells (b.map iv) 86]) (xs:=(a.drop 4).take 4) (ys:=(b.drop 4).take 4) (ia:=H.length) (ib:=H.length+1) (oa:=4) (ob:=4) (pa:=(a.take 4).map iv) (pb:=(b.take 4).map iv) (aW H _ 0) (aW H _ 1) ea (by simp[ha]) eb (by simp[hb]) (by rw[My,aa4]) (by rw[My];exact SP _);simp only[My,aa4]at c2;refine aH ((c2 _ _ ?_));(try simp only[seval]);refine aj ?_;refine aD ?_;refine⟨λh2=> ?_,λh2=> ?_⟩
  ·refine aj ?_;refine aZ ?_;rw[if_pos (by simpa using h2)]at hk;exact jj hH hk
  ·refine aK ?_;rw[if_neg (by simpa using h2)]at hk;refine eO 4 ?_;simp only[seval];have c3:=λk kp=>Kd (lv:=lv) (k:=k) (kp:=kp) (H:=H++[.cells (a.map iv) 86,.cells (b.map iv) 86]) (xs:=a.drop 8) (ys:=b.drop 8) (ia:=H.length) (ib:=H.length+1) (oa:=8) (ob:=8) (pa:=(a.take 4).map iv++((a.drop 4).take 4).map iv) (pb:=(b.take 4).map iv++((b.drop 4).take 4).map iv) (ra:=[]) (rb:=[]) (aW H _ 0) (aW H _ 1) (by rw[ea];simp) (by simp[ha]) (by rw[eb];simp) (by simp[hb]) (by rw[MA,aa5]) (by rw[MA];omega);simp only[MA,aa5]at c3;refine aH ((c3 _ _ ?_));(try simp only[seval]);refine aZ ?_;exact jj hH hk
end
open Go.Conc Go.Proofs Go.Gg.Tk
theorem HP{α:Type}{g:α->AV}{ca pa ra:List AV}{xs:List α}{o i:Nat}{x:α}(hc:ca=pa++(xs.map g++ra))(ho:pa.length=o)(h:xs[i]?=some x):ca.drop (o+i)=g x::((xs.drop (i+1)).map g++ra):=by
 subst hc ho;rw[VA,T7 (by omega),UN,show pa.length+i-pa.length=i by omega,VA,Aj h,show i-(xs.map g).length=0 by have:=eX h;simp;omega,XD];rfl
theorem HQ{α:Type}{g:α->AV}{ca pa ra:List AV}{xs:List α}{o i:Nat}{y:α}(hc:ca=pa++(xs.map g++ra))(ho:pa.length=o)(h:i<xs.length):ca.take (o+i)++[g y]++ca.drop (o+i+1)=pa++((xs.set i y).map g++ra):=by
 subst hc ho;have h1:(pa++(xs.map g++ra)).take (pa.length+i)=pa++(xs.map g).take i:=by
  rw[List.take_append,SV (by omega),show pa.length+i-pa.length=i by omega,TB (by simp;omega)]
 have h2:(pa++(xs.map g++ra)).drop (pa.length+i+1)=(xs.map g).drop (i+1)++ra:=by
  rw[VA,T7 (by omega),UN,show pa.length+i+1-pa.length=i+1 by omega,Wt (by simp;omega)]
 rw[h1,h2,<- Oz h];simp[SC]
namespace Tk
def Kn.l (F:Kn)(mp:Nat):List AV:=bv F.has:: .mp mp::(F.aA.map (λn=>wv n)++(F.hours.map (λn=>wv n)++(F.less.map (λn=>wv n)++(F.aX.map (λn=>wv n)++F.first.map iv))))
structure bM (F:Kn):Prop where
 aA:F.aA.length=4
 hours:F.hours.length=4
 less:F.less.length=4
 aX:F.aX.length=3
 first:F.first.length=11
 mP:∀n∈F.aA,n<65536
 nb:∀n∈F.hours,n<65536
 nk:∀n∈F.less,n<65536
 mm:∀n∈F.aX,n<65536
 h4:∀h∈F.aM,h.length=4
theorem Kn.len{F:Kn}(h:bM F)(mp:Nat):(F.l mp).length=28:=by simp[Kn.l,h.aA,h.hours,h.less,h.aX,h.first]
theorem Kn.HT{F:Kn}{mp p n:Nat}(h:F.aA[p]?=some n):(F.l mp).drop (2+p)=wv n::((F.aA.drop (p+1)).map (λn=>wv n)++(F.hours.map (λn=>wv n)++(F.less.map (λn=>wv n)++(F.aX.map (λn=>wv n)++F.first.map iv)))):=HP (pa:=[bv F.has,.mp mp]) rfl rfl h
theorem Kn.aco{F:Kn}{mp p v:Nat}(h:p<F.aA.length):(F.l mp).take (2+p)++[wv v]++(F.l mp).drop (2+p+1)=({F with aA:=F.aA.set p v}:Kn).l mp:=HQ (g:=λn=>wv n) (pa:=[bv F.has,.mp mp]) rfl rfl h
theorem Kn.Mb{F:Kn}(k:bM F){mp p n:Nat}(h:F.hours[p]?=some n):(F.l mp).drop (6+p)=wv n::((F.hours.drop (p+1)).map (λn=>wv n)++(F.less.map (λn=>wv n)++(F.aX.map (λn=>wv n)++F.first.map iv))):=HP (pa:=bv F.has:: .mp mp::F.aA.map (λn=>wv n)) rfl (by simp[k.aA]) h
theorem Kn.aaS{F:Kn}(k:bM F){mp p v:Nat}(h:p<F.hours.length):(F.l mp).take (6+p)++[wv v]++(F.l mp).drop (6+p+1)=({F with hours:=F.hours.set p v}:Kn).l mp:=HQ (g:=λn=>wv n) (pa:=bv F.has:: .mp mp::F.aA.map (λn=>wv n)) rfl (by simp[k.aA]) h
theorem Kn.Nq{F:Kn}(k:bM F){mp p n:Nat}(h:F.less[p]?=some n):(F.l mp).drop (10+p)=wv n::((F.less.drop (p+1)).map (λn=>wv n)++(F.aX.map (λn=>wv n)++F.first.map iv)):=HP (pa:=bv F.has:: .mp mp::(F.aA.map (λn=>wv n)++F.hours.map (λn=>wv n))) (by simp[Kn.l]) (by simp[k.aA,k.hours]) h
theorem Kn.abF{F:Kn}(k:bM F){mp p v:Nat}(h:p<F.less.length):(F.l mp).take (10+p)++[wv v]++(F.l mp).drop (10+p+1)=({F with less:=F.less.set p v}:Kn).l mp:=by
 have:=HQ (g:=λn=>wv n) (ca:=F.l mp) (y:=v) (pa:=bv F.has:: .mp mp::(F.aA.map (λn=>wv n)++F.hours.map (λn=>wv n))) (ra:=F.aX.map (λn=>wv n)++F.first.map iv) (by simp[Kn.l]) (show _=10 by simp[k.aA,k.hours]) h;rw[this];simp[Kn.l]
theorem Kn.EA{F:Kn}(k:bM F){mp p n:Nat}(h:F.aX[p]?=some n):(F.l mp).drop (14+p)=wv n::((F.aX.drop (p+1)).map (λn=>wv n)++F.first.map iv):=HP (pa:=bv F.has:: .mp mp::(F.aA.map (λn=>wv n)++(F.hours.map (λn=>wv n)++F.less.map (λn=>wv n)))) (by simp[Kn.l]) (by simp[k.aA,k.hours,k.less]) h
theorem Kn.acH{F:Kn}(k:bM F){mp p v:Nat}(h:p<F.aX.length):(F.l mp).take (14+p)++[wv v]++(F.l mp).drop (14+p+1)=({F with aX:=F.aX.set p v}:Kn).l mp:=by
 have:=HQ (g:=λn=>wv n) (ca:=F.l mp) (y:=v) (pa:=bv F.has:: .mp mp::(F.aA.map (λn=>wv n)++(F.hours.map (λn=>wv n)++F.less.map (λn=>wv n)))) (ra:=F.first.map iv) (by simp[Kn.l]) (show _=14 by simp[k.aA,k.hours,k.less]) h;rw[this];simp[Kn.l]
theorem Kn.CM{F:Kn}{mp:Nat}:(F.l mp)[0]?=some (bv F.has):=rfl
theorem Kn.ahT{F:Kn}{mp:Nat}:(F.l mp).drop 1=.mp mp::(F.aA.map (λn=>wv n)++(F.hours.map (λn=>wv n)++(F.less.map (λn=>wv n)++(F.aX.map (λn=>wv n)++F.first.map iv)))):=rfl
theorem Kn.aru{F:Kn}{mp:Nat}:(F.l mp).take 0++[bv true]++(F.l mp).drop (0+1)=({F with has:=true}:Kn).l mp:=rfl
theorem Kn.adk{F:Kn}(k:bM F){mp:Nat}{t:List Int}(ht:t.length=11):(F.l mp).take 17++t.map iv++(F.l mp).drop (17+11)=({F with first:=t}:Kn).l mp:=by
 have e:F.l mp=(bv F.has:: .mp mp::(F.aA.map (λn=>wv n)++(F.hours.map (λn=>wv n)++(F.less.map (λn=>wv n)++F.aX.map (λn=>wv n)))))++F.first.map iv:=by simp[Kn.l]
 have hl:(bv F.has::AV.mp mp::(F.aA.map (λn=>wv n)++(F.hours.map (λn=>wv n)++(F.less.map (λn=>wv n)++F.aX.map (λn=>wv n))))).length=17:=by simp[k.aA,k.hours,k.less,k.aX]
 rw[T7 (by rw[Kn.len k];omega),e,TB (by omega),SV (by omega),SO];simp[Kn.l]
structure jF (x:ak)(t:List Int):Prop where
 len:t.length=11
 bI:mX (t.take 4)
 num:∀p,p<x.pieces.length->∃n:Nat,t[4+p]?=some (n:Int)/\n<9/\0<=jz (t.take 4) (n+t.getD 0 0)
 own:∀s,s<x.aC.length->∃o:Nat,t[8+s]?=some (o:Int)/\o<4
end Tk
def setH (hs:List (List Int)):aa:=.obj (.map (hs.zipIdx.map eF).toArray hs.length)
theorem rj{H:List aa}{i:Nat}{x:aa}(h:H[i]?=some x):H.set i x=H:=by
 apply Yp;intro j;rw[UV];split
 ·rename_i e;subst e;rw[if_pos (eX h)];exact h.symm
 ·rfl
theorem v6{H L:List aa}{i:Nat}{x:aa}(h:i<H.length):(H++L).set i x=H.set i x++L:=UX _ _ h
section
variable {lv:Bool}{H:List aa}{k kp:AV->List aa->Prop}
theorem PZ{F:Kn}{t:List Int}(h:bM F)(ht:t.length=11):bM (j7 F t):=by
 unfold j7;split
 ·exact h
 ·exact⟨h.aA,h.hours,h.less,h.aX,ht,h.mP,h.nb,h.nk,h.mm,h.h4⟩
theorem Eh{l:List Nat}{i v:Nat}(h:∀n∈l,n<65536)(hv:v<65536):∀n∈l.set i v,n<65536:=λn hn=>by
 rcases UF hn with h'|rfl
 ·exact h n h'
 ·exact hv
theorem Tk.bM.EI{G:Kn}(h:bM G){i v:Nat}(hv:v<65536):bM {G with aX:=G.aX.set i v}:=⟨h.aA,h.hours,h.less,by simp[h.aX],h.first,h.mP,h.nb,h.nk,Eh h.mm hv,h.h4⟩
theorem Tk.bM.adp{G:Kn}(h:bM G){i v:Nat}(hv:v<65536):bM {G with aA:=G.aA.set i v}:=⟨by simp[h.aA],h.hours,h.less,h.aX,h.first,Eh h.mP hv,h.nb,h.nk,h.mm,h.h4⟩
theorem Tk.bM.adn{G:Kn}(h:bM G){i v:Nat}(hv:v<65536):bM {G with hours:=G.hours.set i v}:=⟨h.aA,by simp[h.hours],h.less,h.aX,h.first,h.mP,Eh h.nb hv,h.nk,h.mm,h.h4⟩
theorem Tk.bM.ado{G:Kn}(h:bM G){i v:Nat}(hv:v<65536):bM {G with less:=G.less.set i v}:=⟨h.aA,h.hours,by simp[h.less],h.aX,h.first,h.mP,h.nb,Eh h.nk hv,h.mm,h.h4⟩
theorem FC{l:List Nat}{i n v:Nat}(h:l[i]?=some n):pz l i v=l.set i (n|||2^v):=by
 unfold pz;rw[SE,h];rfl
theorem adm(hs:List (List Int)):setH hs=.obj (.map (hs.zipIdx.map eF).toArray hs.length):=rfl
theorem adl(hs:List (List Int))(h:List Int):setH (hs++[h])=.obj (.map ((hs.zipIdx++[(h,hs.length)]).map eF).toArray (hs.length+1)):=by
 rw[adm,List.zipIdx_append,SL];simp
theorem E_{α:Type}{l:List α}{y:α×Nat}(h:y∈l.zipIdx):y.1∈l:=by
 obtain⟨a,b⟩:=y;have:=List.mem_zipIdx h;simp at this;rw[this.2];exact Ww _
theorem Kt{x:List Int}{hs:List (List Int)}:(qC x hs.zipIdx 0=none/\x∉hs)\/(∃i b,qC x hs.zipIdx 0=some (i,.bool true)/\hs.zipIdx[i]?=some (x,b)/\x∈hs):=by
 cases h:qC x hs.zipIdx 0 with
 |none=>
  refine .inl ⟨rfl,λhm=> ?_⟩;obtain⟨i,hi⟩:=UW.1 hm;have:(x,i)∈hs.zipIdx:=UW.2 ⟨i,by rw[List.getElem?_zipIdx,hi];simp⟩;exact Rm h _ this rfl
 |some p=>
  obtain⟨i,v⟩:=p;obtain⟨b,_,h2,rfl⟩:=Rn h;rw[Z8]at h2;exact .inr ⟨i,b,rfl,h2,E_ (y:=(x,b)) (S8 h2)⟩
theorem F.i3:∃i,SA.info? 3=some i/\i.size=1:=by
 obtain⟨i,h1,h2⟩:=Ts.1 F.i3s;exact⟨i,h1,h2⟩
theorem v4{H L:List aa}{i:Nat}{z:aa}(h:i<H.length):(H.set i z++L)[i]?=some z:=by
 rw[SY (by simpa using h),UV,if_pos rfl,if_pos h]
theorem v5{H L:List aa}{i:Nat}{z y:aa}(h:i<H.length):(H.set i z++L).set i y=H.set i y++L:=by
 rw[v6 (by simpa using h),Xc]
theorem ajD{x:ak}{t:List Int}{deep:Int}{fp mp:Nat}{Q:Kn}(hx:x.Ok)(ht:jF x t)(hQ:bM Q)(mD:fp≠mp)(hf:H[fp]?=some (.cells (Q.l mp) 88))(hm:H[mp]?=some (setH Q.aM))(hk:k (.aO []) ((H.set fp (.cells ((eK x deep Q t).l mp) 88)).set mp (setH (eK x deep Q t).aM))):bc lv SA 99 H [.op fp 0,x.av,.agg (t.map iv),iv deep] k kp:=by
 refine bD (rs:=[]) (nt:=135) Tryz.f99 λhH hA=> ?_;simp only[bk,SU,ak.av];have kC:=ht.len;have KL:(t.map iv).length=11:=by rw[Ta,kC]
 have mC:=eX hf;have yK:=eX hm;have aaF:=Kn.len hQ mp;have bS:x.l=[iv x.first,iv x.hours,iv x.am,dt x.seen,aT x.pieces,aT x.aC]:=rfl;have dC:∀(L:List aa) i,(H++L)[H.length+i]?=L[i]?:=λL i=>aW H L i;obtain⟨R1,qF⟩:∃R1,R1=j7 Q t:=⟨_,rfl⟩;have nT:bM R1:=by rw[qF];exact PZ hQ kC
 have CX:R1.aM=Q.aM:=by rw[qF];unfold j7;split<;>rfl
 obtain⟨H1,lW⟩:∃H1,H1=H.set fp (.cells (R1.l mp) 88):=⟨_,rfl⟩;have cS:H1.length=H.length:=by rw[lW,TJ]
 have yl:H1[fp]?=some (.cells (R1.l mp) 88):=by rw[lW,UV,if_pos rfl,if_pos mC]
 have Gc:H1[mp]?=some (setH R1.aM):=by rw[lW,Uc mD,CX];exact hm
 have alW:∀G:Kn,∀hs:List (List Int),bF ((H1.set fp (.cells (G.l mp) 88)).set mp (setH hs)):=λG hs=>by
  have hl:((H1.set fp (.cells (G.l mp) 88)).set mp (setH hs)).length=H.length:=by rw[TJ,TJ,cS]
  intro z hz;rw[hl];rcases UF hz with hz|rfl
  ·rcases UF hz with hz|rfl
   ·rw[lW]at hz;rcases UF hz with hz|rfl
    ·exact hH z hz
    ·intro a ha;simp only[Kn.l,SK,SS,Tm]at ha;rcases ha with rfl|rfl|⟨_,_,rfl⟩|⟨_,_,rfl⟩|⟨_,_,rfl⟩|⟨_,_,rfl⟩|⟨_,_,rfl⟩
     ·exact .val _
     ·exact .mp (by omega)
     all_goals exact .val _
   ·intro a ha;simp only[Kn.l,SK,SS,Tm]at ha;rcases ha with rfl|rfl|⟨_,_,rfl⟩|⟨_,_,rfl⟩|⟨_,_,rfl⟩|⟨_,_,rfl⟩|⟨_,_,rfl⟩
    ·exact .val _
    ·exact .mp (by omega)
    all_goals exact .val _
  ·trivial
 have iK:k (.aO []) ((H1.set fp (.cells ((eK x deep Q t).l mp) 88)).set mp (setH (eK x deep Q t).aM)):=by rw[lW,Xc];exact hk
 have ep:∀(G:Kn)(hs:List (List Int))(L:List aa),eK x deep Q t=G->G.aM=hs->cJ H1.length ((H1.set fp (.cells (G.l mp) 88)).set mp (setH hs)++L) (.aO []) k:=λG hs L hG iW=>by
  subst hG iW;exact jI (Wk.refl _) rfl (by rw[TJ,TJ,cS];exact SP _) (alW _ _) (by simp[jV]) iK
 have aE:eK x deep Q t=(if deep=2 then{R1 with aX:=nq t x.aC.length R1.aX}else if deep=0 then{R1 with aM:=jW R1.aM (t.take 4)}else{R1 with aA:=sA t x.pieces.length R1.aA,hours:=w9 t x.pieces.length R1.hours,less:=zf t x.pieces.length x.pieces.length R1.less}):=by rw[qF];rfl
 rw[aE]at ep;clear hk iK aE;refine aj ?_;refine ah ?_;simp only[seval,fV hf,Kn.CM];refine aD ?_;refine⟨λhc=> ?ga,λhc=> ?gb⟩
 case' ga=>
  have e1:R1={Q with has:=true,first:=t}:=by rw[qF];unfold j7;rw[hc];rfl
  have eH:∀L:List aa,(H++L).set fp (.cells (({Q with has:=true}:Kn).l mp) 88)=H.set fp (.cells (({Q with has:=true}:Kn).l mp) 88)++L:=λL=>v6 mC;have Gl:bM {Q with has:=true}:=⟨hQ.aA,hQ.hours,hQ.less,hQ.aX,hQ.first,hQ.mP,hQ.nb,hQ.nk,hQ.mm,hQ.h4⟩;have alB:=Kn.len Gl mp;have Il:=Kn.adk Gl (mp:=mp) (t:=t) kC;have A5:Uh 11 (t.map iv)=t.map iv:=SV (by omega);have alj:∀(z:aa)(L:List aa),(H.set fp z++L)[H.length+1]?=L[1]?:=λz L=>by have:=aW (H.set fp z) L 1;rwa [TJ]at this
  refine nI [5,8] [0,1,2,3,4,5,6,7,8] [⟨0,false,[],[]⟩,⟨1,false,[],[([5],[5])]⟩,⟨2,false,[],[([5],[5])]⟩,⟨3,false,[],[]⟩,⟨4,false,[],[]⟩,⟨5,true,[5],[]⟩,⟨6,false,[5],[]⟩,⟨7,false,[5],[]⟩,⟨8,true,[5,8],[]⟩] (λD=>bif isDone 8 D then H1++[.cells x.l 76,.cells (t.map iv) 86]else bif isDone 5 D then H.set fp (.cells (({Q with has:=true}:Kn).l mp) 88)++[.cells x.l 76,.cells (t.map iv) 86]else H++[.cells x.l 76,.cells (t.map iv) 86]) ?_;simp only[seval,fV hf,v4 mC,v5 mC,v6 mC,aaF,alB,kC,KL,A5,alj];have eL:(AV.val (.bool true)::(Uh 16 (T5 1 (Q.l mp))++t.map iv++T5 27 (T5 1 (Q.l mp))))=R1.l mp:=by rw[e1];exact Il
  refine⟨by rfl,by rw[Ur,aaF];omega,by rw[eL,lW],?_⟩;rw[eL,<- lW,<- cS]
 case' gb=>
  have e1:R1=Q:=by rw[qF];unfold j7;rw[hc];rfl
  have JY:H1=H:=by rw[lW,e1];exact rj hf
  refine aK ?_;rw[<- JY]
 all_goals
  clear hc e1;have l7:fp<H1.length:=by omega
  have aS:∀(L:List aa),(H1++L)[H1.length]?=L[0]?:=λL=>aW H1 L 0;have c_:∀(L:List aa),(H1++L)[H1.length+1]?=L[1]?:=λL=>aW H1 L 1;have de:∀(z:aa)(L:List aa),(H1.set fp z++L)[H1.length]?=L[0]?:=λz L=>by have:=aW (H1.set fp z) L 0;rwa [TJ]at this
  have dW:∀(z:aa)(L:List aa),(H1.set fp z++L)[H1.length+1]?=L[1]?:=λz L=>by have:=aW (H1.set fp z) L 1;rwa [TJ]at this
  have G_:∀G:Kn,G.aM=R1.aM->(H1.set fp (.cells (G.l mp) 88)).set mp (setH R1.aM)=H1.set fp (.cells (G.l mp) 88):=λG _=>rj (by rw[Uc mD];exact Gc);refine aj ?_;refine aj ?_;refine aD ?_;refine⟨λh2=> ?_,λh2=> ?_⟩
  ·
   replace h2:deep=2:=(by simpa using h2);have yR:=hx.dp;rw[if_pos h2]at ep;refine ah ?_;simp only[seval,aS,bS,aT];refine bU ?_;refine eI x.aC.length (λi:Nat=>[(30,iv i)]) (λi=>H1.set fp (.cells (({R1 with aX:=nq t i R1.aX}:Kn).l mp) 88)++[.cells x.l 76,.cells (t.map iv) 86]) (λi=>bM {R1 with aX:=nq t i R1.aX}) (λ_ _=>rfl) (by simp only[seval];simp[a_,Wk.refl]) (by rw[show ({R1 with aX:=nq t 0 R1.aX}:Kn)=R1 from rfl,rj yl];rfl) (λ_ _ _=>by simp) nT (λbC bW i cK aq R hR=> ?_);refine aj ?_;refine aD ?_;refine⟨λh3=> ?_,λh3=> ?_⟩
   ·have bx:i<x.aC.length:=(by omega);obtain⟨o,ho,ho4⟩:=ht.own i bx;have qY:sI t i=o:=(by unfold sI;rw[SE,ho];rfl);obtain⟨n,hn⟩:=bK (xs:=nq t i R1.aX) (i:=i) (by have:=aq.aX;simp only at this;omega);have Dq:n<65536:=aq.mm n (S8 hn);have b3:(0<=(i:Int)/\(i:Int)<3)=True:=(by simp;omega);have bJ:SD.wrap ((i:Int)+1)=((i+1:Nat):Int):=(by rw[br _ (by omega)];rfl);have AY:=Kn.EA aq (mp:=mp) (p:=i) (n:=n) hn;have o1:=Kn.acH aq (mp:=mp) (p:=i) (v:=n|||2^o) (eX hn);have dz:=Kn.len aq mp;refine aK ?_;refine aj ?_;refine eO 15 ?_;simp only[seval,dW,v4 l7,v5 l7,b3,AY,lw ho];refine ij (wv (n|||2^o)) (cC (u5 Dq (show o<16 by omega) ⟨rfl,rfl⟩)) ?_;(try simp only[seval,v4 l7,v5 l7,b3,dz]);refine⟨by omega,?_⟩;rw[o1];refine ah ?_;simp only[seval,bJ];have cT:nq t (i+1) R1.aX=(nq t i R1.aX).set i (n|||2^o):=(by rw[nq,qY,FC hn]);refine hR _ ⟨bx,?_,?_⟩
    ·rw[cT];exact aq.EI (qh Dq (xz (by omega)))
    ·rw[cT];exact cz
   ·have dD:i=x.aC.length:=(by omega);subst dD;have:=ep _ R1.aM [.cells x.l 76,.cells (t.map iv) 86] rfl rfl;rw[G_ {R1 with aX:=nq t x.aC.length R1.aX} rfl]at this;refine bR ?_;refine aZ ?_;exact this
  ·replace h2:¬deep=2:=(by simpa using h2);rw[if_neg h2]at ep;refine aj ?_;refine aD ?_;refine⟨λh3=> ?_,λh3=> ?_⟩
   ·
    replace h3:deep=0:=(by simpa using h3);rw[if_pos h3]at ep;have DT:(t.take 4).length=4:=(by simp[kC]);have tS:∀L:List aa,(H1++L)[mp]?=some (.obj (.map (R1.aM.zipIdx.map eF).toArray R1.aM.length)):=λL=>fV Gc;have hfp:∀L:List aa,(H1++L)[fp]?=some (.cells (R1.l mp) 88):=λL=>fV yl;have aaL:mp<H1.length:=(by omega);obtain⟨i3,qK,pY⟩:=F.i3;have KM:∀y∈R1.aM.zipIdx,y.1.length=4:=λy hy=>nT.h4 _ (E_ hy);have GD:=adZ (ts:=R1.aM.zipIdx) F.EU F.u3 qK pY DT KM;have Gx:=λb=>adV (b:=b) (k:=.i64) (d:=9998) F.EU F.u3 qK pY DT;refine eO 6 ?_;simp only[seval,hfp,c_,tS,Kn.ahT,kC,KL];rw[<- Wa];refine ew (zr _) (ew rfl ⟨Gx _,_,GD,?_,?_⟩)
    ·intro i v pP;rcases Kt (x:=t.take 4) (hs:=R1.aM)with⟨h,_⟩|⟨i',b,h,h2,_⟩
     ·rw[h]at pP;cases pP
     ·rw[h]at pP;cases pP;rw[To,h2];exact aq7 _
    ·rcases Kt (x:=t.take 4) (hs:=R1.aM)with⟨h,hn⟩|⟨i',b,h,h2,hn⟩
     ·rw[h,acO,v6 aaL];have:=ep _ _ [.cells x.l 76,.cells (t.map iv) 86] rfl rfl;rw[show jW R1.aM (t.take 4)=R1.aM++[t.take 4] by rw[jW,if_neg hn],adl]at this;rw[show H1.set fp (.cells (({R1 with aM:=R1.aM++[t.take 4]}:Kn).l mp) 88)=H1 from rj yl]at this;refine aZ ?_;exact this
     ·rw[h,apO h2,v6 aaL];have:=ep _ _ [.cells x.l 76,.cells (t.map iv) 86] rfl rfl;rw[show jW R1.aM (t.take 4)=R1.aM by rw[jW,if_pos hn],adm]at this;rw[show H1.set fp (.cells (({R1 with aM:=R1.aM}:Kn).l mp) 88)=H1 from rj yl]at this;refine aZ ?_;exact this
   ·
    replace h3:¬deep=0:=(by simpa using h3);rw[if_neg h3]at ep;refine aK ?_;have n9:=hx.ey;obtain⟨P,hP⟩:∃P:Nat->Kn,∀p,P p={R1 with aA:=sA t p R1.aA,hours:=w9 t p R1.hours,less:=zf t x.pieces.length p R1.less}:=⟨_,λ_=>rfl⟩;obtain⟨P',Gk⟩:∃P':Nat->Nat->Kn,∀p q,P' p q={R1 with aA:=sA t (p+1) R1.aA,hours:=w9 t (p+1) R1.hours,less:=xg t p q (zf t x.pieces.length p R1.less)}:=⟨_,λ_ _=>rfl⟩;have Sk:P 0=R1:=(by rw[hP];rfl);have hPs:∀p,P' p x.pieces.length=P (p+1):=λp=>(by rw[hP,Gk];rfl);refine ah ?_;simp only[seval,aS,bS,aT];refine bU ?_;refine eI x.pieces.length (λi:Nat=>[(62,iv i)]) (λi=>H1.set fp (.cells ((P i).l mp) 88)++[.cells x.l 76,.cells (t.map iv) 86]) (λi=>bM (P i)) (λ_ _=>rfl) (by simp only[seval];simp[a_,Wk.refl]) (by rw[Sk,rj yl];rfl) (λ_ _ _=>by simp) (by rw[Sk];exact nT) (λbC bW p cK aq R hR=> ?_);refine aj ?_;refine aD ?_;refine⟨λh=> ?_,λh=> ?_⟩
    ·have dz:p<x.pieces.length:=(by omega);obtain⟨o,ho,ho9,qY⟩:=ht.num p dz;obtain⟨n,hn⟩:=bK (xs:=(P p).aA) (i:=p) (by have:=aq.aA;omega);obtain⟨m,fZ⟩:=bK (xs:=(P p).hours) (i:=p) (by have:=aq.hours;omega);have Dq:n<65536:=aq.mP n (S8 hn);have aaG:m<65536:=aq.nb m (S8 fZ);have b4:(0<=(p:Int)/\(p:Int)<4)=True:=(by simp;omega);have bJ:SD.wrap ((p:Int)+1)=((p+1:Nat):Int):=(by rw[br _ (by omega)];rfl);have AY:=Kn.HT (mp:=mp) hn;have o1:=Kn.aco (mp:=mp) (p:=p) (v:=n|||2^o) (eX hn);have Dx:=Kn.len aq mp;have mc:mT t p=o:=(by unfold mT;rw[SE,ho];rfl);refine aK ?_;refine aj ?_;refine eO 15 ?_;simp only[seval,dW,v4 l7,v5 l7,b4,AY,lw ho];refine ij (wv (n|||2^o)) (cC (u5 Dq (show o<16 by omega) ⟨rfl,rfl⟩)) ?_;(try simp only[seval,v4 l7,v5 l7,b4,Dx]);refine⟨by omega,?_⟩;rw[o1];obtain⟨c0,yy⟩:=bK (xs:=t) (i:=0) (by omega);have Gv:t.getD 0 0=c0:=(by rw[SE,yy];rfl);rw[Gv]at qY;have aae:c0∈t.take 4:=by
      match t,kC,yy with
      |a::t',_,yy=>cases yy;simp
     have pQ:=ht.bI.lo c0 aae;have GH:=ht.bI.hi c0 aae;have eS:SD.wrap ((o:Int)+c0)=(o:Int)+c0:=br _ (by omega);have akR:(t.map iv)[0]?=some (iv c0):=(by rw[To,yy];rfl);obtain⟨u,hu⟩:=Int.eq_ofNat_of_zero_le qY;have hu4:u<4:=by
      have h5:jz (t.take 4) ((o:Int)+c0)<0+(t.take 4).length:=aee;rw[ht.bI.len,hu]at h5;omega
     have hth:EO t p=u:=by
      unfold EO;rw[SE,ho,Gv];simp only[S7];rw[hu];rfl
     obtain⟨G1,yn⟩:∃G1,G1=({P p with aA:=(P p).aA.set p (n|||2^o)}:Kn):=⟨_,rfl⟩;have CS:bM G1:=(by rw[yn];exact aq.adp (qh Dq (xz (by omega))));have LX:G1.hours[p]?=some m:=(by rw[yn];exact fZ);rw[<- yn];have aaW:=Kn.Mb CS (mp:=mp) LX;have aaY:=Kn.aaS CS (mp:=mp) (p:=p) (v:=m|||2^u) (eX LX);have aaX:=Kn.len CS mp;refine eO 22 ?_;simp only[seval,dW,v4 l7,v5 l7,b4,aaW,lw ho,KL,kC,eS];rw[<- Wa];refine ew akR ?_;(try simp only[seval,eS]);refine ij (iv u) (cC (Rk (h:=t.take 4) (n:=(o:Int)+c0) ht.bI.len ⟨by rw[hu],rfl⟩)) ?_;refine ij (wv (m|||2^u)) (cC (u5 aaG (show u<16 by omega) ⟨rfl,rfl⟩)) ?_;(try simp only[seval,v4 l7,v5 l7,b4,aaX]);refine⟨by omega,?_⟩;rw[aaY];have KZ:({G1 with hours:=G1.hours.set p (m|||2^u)}:Kn)=P' p 0:=by
      rw[yn,Gk];simp only[hP]at hn fZ⊢;rw[sA,mc,FC hn,w9,hth,FC fZ];rfl
     have akC:bM (P' p 0):=(by rw[<- KZ];exact CS.adn (qh aaG (xz (by omega))));rw[KZ];clear o1 AY Dx CS LX aaW aaY aaX KZ yn hn fZ aq;refine ah ?_;simp only[seval,de,bS,aT];refine bU ?_;refine eI x.pieces.length (λi:Nat=>[(108,iv i)]) (λi=>H1.set fp (.cells ((P' p i).l mp) 88)++[.cells x.l 76,.cells (t.map iv) 86]) (λi=>bM (P' p i)) (λ_ _=>rfl) (by simp only[seval];simp[a_,Wk.refl]) rfl (λ_ _ _=>by simp) akC (λSg auG q vC n5 R' Sm=> ?_);refine aj ?_;refine aD ?_;refine⟨λh=> ?_,λh=> ?_⟩
     ·have ie:q<x.pieces.length:=(by omega);obtain⟨o2,ho2,auR,_⟩:=ht.num q ie;have b4q:(0<=(q:Int)/\(q:Int)<4)=True:=(by simp;omega);have kW:SD.wrap ((q:Int)+1)=((q+1:Nat):Int):=(by rw[br _ (by omega)];rfl);have cT:P' p (q+1)={P' p q with less:=if o<o2 then pz (P' p q).less p q else(P' p q).less}:=by
       rw[Gk,Gk,xg];simp only[SE,ho,ho2,S7];by_cases hlt:o<o2
       ·rw[if_pos (by omega),if_pos hlt]
       ·rw[if_neg (by omega),if_neg hlt]
      refine aK ?_;refine aj ?_;refine eO 8 ?_;simp only[seval,dW,b4,b4q,lw ho,lw ho2];refine aD ?_;refine⟨λh=> ?_,λh=> ?_⟩
      ·have hlt:o<o2:=(by simpa using h);rw[if_pos hlt]at cT;obtain⟨v,hv⟩:=bK (xs:=(P' p q).less) (i:=p) (by have:=n5.less;omega);have Hi:v<65536:=n5.nk v (S8 hv);have al2:=Kn.Nq n5 (mp:=mp) hv;have al6:=Kn.abF n5 (mp:=mp) (p:=p) (v:=v|||2^q) (eX hv);have al5:=Kn.len n5 mp;rw[FC hv]at cT;refine eO 12 ?_;simp only[seval,v4 l7,v5 l7,b4,al2];refine ij (wv (v|||2^q)) (cC (u5 Hi (show q<16 by omega) ⟨rfl,rfl⟩)) ?_;(try simp only[seval,v4 l7,v5 l7,b4,al5]);refine⟨by omega,?_⟩;rw[al6,<- cT];refine ah ?_;simp only[seval,kW];refine Sm _ ⟨ie,?_,?_⟩
       ·rw[cT];exact n5.ado (qh Hi (xz (by omega)))
       ·exact cz
      ·have hlt:¬o<o2:=(by simpa using h);rw[if_neg hlt]at cT;refine aK ?_;refine ah ?_;simp only[seval,kW];rw[show ({P' p q with less:=(P' p q).less}:Kn)=P' p q from rfl]at cT;refine Sm _ ⟨ie,?_,?_⟩
       ·rw[cT];exact n5
       ·rw[cT];exact cz
     ·have hqe:q=x.pieces.length:=(by omega);subst hqe;rw[hPs]at n5⊢;refine bR ?_;refine ah ?_;simp only[seval,bJ];exact hR _ ⟨dz,n5,cz⟩
    ·have eJ:p=x.pieces.length:=(by omega);subst eJ;have:=ep _ R1.aM [.cells x.l 76,.cells (t.map iv) 86] rfl rfl;rw[<- hP,G_ (P _) (by rw[hP])]at this;refine bR ?_;exact this
end
open Go.Conc Go.Proofs Go.Gg.Tk
namespace Tk
def ig (F:Kn)(hs:List (List Int))(G:Kn):Kn:=if G.has then⟨true,hs.foldl jW F.aM,ml F.aA G.aA,ml F.hours G.hours,ml F.less G.less,ml F.aX G.aX,if F.has=false\/te G.first F.first then G.first else F.first⟩else F
def ov (l m:List Nat):Nat->List Nat
 |0=>l
 |i+1=>(ov l m i).set i ((ov l m i).getD i 0|||m.getD i 0)
end Tk
theorem H6{l m:List Nat}{i a b:Nat}(ha:(ov l m i)[i]?=some a)(hb:m[i]?=some b):ov l m (i+1)=(ov l m i).set i (a|||b):=by
 rw[ov,SE,SE,ha,hb];rfl
theorem ao5{l m:List Nat}(h:l.length=m.length){i:Nat}(hi:i<=l.length):ov l m i=ml (l.take i) (m.take i)++l.drop i:=by
 induction i with
 |zero=>simp[ov,ml]
 |succ i ih=>
  have hl:i<l.length:=by omega
  have hm:i<m.length:=by omega
  have e1:(ml (l.take i) (m.take i)).length=i:=by simp[ml];omega
  have e2:(ov l m i).getD i 0=l[i]:=by
   rw[ih (by omega),SE,S_ (by omega),e1];simp[hl]
  rw[ov,e2,ih (by omega),Ud _ _ (by omega),e1,Vl,SE,SX hm,S7,TY hl,T9,Uq,Uq,SX hl,SX hm,YO,YO];unfold ml;rw[List.zipWith_append (by simp;omega)];simp
theorem H5{l m:List Nat}(h:l.length=m.length){n:Nat}(hn:l.length=n):ov l m n=ml l m:=by
 subst hn;rw[ao5 h (SP _),h,Tp,T7 (by omega),SO,<- h,Tp]
theorem aiD{lv:Bool}{H:List aa}{k kp:AV->List aa->Prop}{fp mp mg:Nat}{Q G:Kn}(hQ:bM Q)(hG:bM G)(mD:fp≠mp)(wW:mg≠mp)(hf:H[fp]?=some (.cells (Q.l mp) 88))(hm:H[mp]?=some (setH Q.aM))(hg:H[mg]?=some (setH G.aM))(w7:G.aM.Nodup)(hk:∀hs:List (List Int),hs.Perm G.aM->k (.aO []) ((H.set fp (.cells ((ig Q hs G).l mp) 88)).set mp (setH (ig Q hs G).aM))):bc lv SA 102 H [.op fp 0,.agg (G.l mg)] k kp:=by
 refine bD (rs:=[]) (nt:=121) Tryz.f102 λhH hA=> ?_;simp only[bk,SU];have mC:=eX hf;have yK:=eX hm;have kg:=eX hg;have GF:=Kn.len hG mg;have G7:=Kn.len hQ mp;have tO:(G.l mg).drop 17=G.first.map iv:=by
  have e:G.l mg=(bv G.has:: .mp mg::(G.aA.map (λn=>wv n)++(G.hours.map (λn=>wv n)++(G.less.map (λn=>wv n)++G.aX.map (λn=>wv n)))))++G.first.map iv:=by simp[Kn.l]
  rw[e,Wt (by simp[hG.aA,hG.hours,hG.less,hG.aX]),T7 (by simp[hG.aA,hG.hours,hG.less,hG.aX])];rfl
 refine aj ?_;refine ah ?_;simp only[seval,Kn.CM];refine aD ?_;refine⟨λh=> ?_,λh=> ?_⟩
 ·
  have LB:G.has=false:=by simpa using h
  have:=hk G.aM (ag' _);rw[ig,LB]at this;simp only[TR,if_false]at this;rw[rj hf,rj hm]at this;refine aZ ?_;exact iH hH (Wk.refl _) (by simp[jV]) this
 ·have LB:G.has=true:=by simpa using h
  refine aK ?_;obtain⟨R1,qF⟩:∃R1,R1=(if Q.has=false\/te G.first Q.first=true then{Q with first:=G.first}else Q):=⟨_,rfl⟩;have nT:bM R1:=by
   rw[qF];split
   ·exact⟨hQ.aA,hQ.hours,hQ.less,hQ.aX,hG.first,hQ.mP,hQ.nb,hQ.nk,hQ.mm,hQ.h4⟩
   ·exact hQ
  have CX:R1.aM=Q.aM:=by rw[qF];split<;>rfl
  obtain⟨H1,lW⟩:∃H1,H1=H.set fp (.cells (R1.l mp) 88):=⟨_,rfl⟩;have aS:∀(L:List aa),(H++L)[H.length]?=L[0]?:=λL=>aW H L 0;have de:∀(z:aa)(L:List aa),(H.set fp z++L)[H.length]?=L[0]?:=λz L=>by have:=aW (H.set fp z) L 0;rwa [TJ]at this
  have kC:=hG.first;have A5:Uh 11 (G.first.map iv)=G.first.map iv:=SV (by rw[Ta];omega);have Il:Uh 17 (Q.l mp)++G.first.map iv++T5 28 (Q.l mp)=({Q with first:=G.first}:Kn).l mp:=Kn.adk hQ kC;have hqd:(Q.l mp).drop 17=Q.first.map iv:=by
   have e:Q.l mp=(bv Q.has:: .mp mp::(Q.aA.map (λn=>wv n)++(Q.hours.map (λn=>wv n)++(Q.less.map (λn=>wv n)++Q.aX.map (λn=>wv n)))))++Q.first.map iv:=(by simp[Kn.l]);rw[e,Wt (by simp[hQ.aA,hQ.hours,hQ.less,hQ.aX]),T7 (by simp[hQ.aA,hQ.hours,hQ.less,hQ.aX])];rfl
  have aa7:Uh 11 (Q.first.map iv)=Q.first.map iv:=SV (by rw[Ta,hQ.first];exact SP _);have cS:H1.length=H.length:=by rw[lW,TJ]
  cases G6:Q.has
  case' true=>
   refine eO 12 ?_;simp only[seval,fV hf,Kn.CM,G6,aS,tO,hqd,GF,G7,A5,aa7];refine⟨by omega,by have:=hQ.first;omega,?_⟩;refine aH ((aiK hG.first hQ.first ?_));(try simp only[seval]);refine aD ?_;refine⟨λhb=> ?tt,λhb=> ?tf⟩
  case' false=>
   refine eO 12 ?_;simp only[seval,fV hf,Kn.CM,G6,aS,tO,hqd,GF,G7,A5,aa7];refine aD ?_
  case' tt=>
   have e1:R1={Q with first:=G.first}:=(by rw[qF,if_pos (.inr hb)]);refine ah ?_;simp only[seval,fV hf,aS,tO,GF,G7,A5,kC,v6 mC];rw[Il,<- e1,<- lW,<- cS]
  case' tf=>
   have e1:R1=Q:=(by rw[qF,if_neg (by rw[G6,hb];simp)]);have JY:H1=H:=(by rw[lW,e1];exact rj hf);refine aK ?_;rw[<- JY]
  case' false=>
   have e1:R1={Q with first:=G.first}:=(by rw[qF,if_pos (.inl G6)]);refine ah ?_;simp only[seval,fV hf,aS,tO,GF,G7,A5,kC,v6 mC];rw[Il,<- e1,<- lW,<- cS]
  all_goals
   clear e1;have l7:fp<H1.length:=(by omega);have yl:H1[fp]?=some (.cells (R1.l mp) 88):=(by rw[lW,UV,if_pos rfl,if_pos mC]);have Gc:H1[mp]?=some (setH R1.aM):=(by rw[lW,Uc mD,CX];exact hm);have hfg:fp≠mg:=λe=>(by subst e;rw[hf]at hg;cases hg);have h1g:H1[mg]?=some (setH G.aM):=(by rw[lW,Uc hfg];exact hg);obtain⟨R2,jl⟩:∃R2,R2=({R1 with has:=true}:Kn):=⟨_,rfl⟩;have eL:AV.val (.bool true)::T5 1 (R1.l mp)=R2.l mp:=(by rw[jl];rfl);have K1:R2.aM=Q.aM:=(by rw[jl];exact CX);have vb:bM R2:=(by rw[jl];exact⟨nT.aA,nT.hours,nT.less,nT.aX,nT.first,nT.mP,nT.nb,nT.nk,nT.mm,nT.h4⟩);refine ah ?_;simp only[seval,fV yl,v6 l7,Kn.aru];refine⟨by have:=Kn.len nT mp;omega,?_⟩;rw[eL];obtain⟨B,hB⟩:∃B:Kn->List (List Int)->List aa,∀K hs,B K hs=(H1.set fp (.cells (K.l mp) 88)).set mp (setH hs):=⟨_,λ_ _=>rfl⟩;have dH:∀K hs,(B K hs).length=H1.length:=λK hs=>(by rw[hB,TJ,TJ]);have R7:∀K hs (L:List aa),(B K hs++L)[mp]?=some (.obj (.map (hs.zipIdx.map eF).toArray hs.length)):=λK hs L=>by
    rw[SY (by rw[dH];omega),hB,UV,if_pos rfl,if_pos (by rw[TJ];omega)];rfl
   have Ge:∀K hs (L:List aa),(B K hs++L)[mg]?=some (.obj (.map (G.aM.zipIdx.map eF).toArray G.aM.length)):=λK hs L=>by
    rw[SY (by rw[dH];omega),hB,Uc (λe=>wW e.symm),Uc hfg,h1g];rfl
   have oM:∀K hs (L:List aa),(B K hs++L)[fp]?=some (.cells (K.l mp) 88):=λK hs L=>by
    rw[SY (by rw[dH];omega),hB,Uc (λe=>mD e.symm),UV,if_pos rfl,if_pos (by omega)]
   have akA:∀K hs pX (L:List aa),(B K hs++L).set mp (setH pX)=B K pX++L:=λK hs pX L=>by
    rw[UX _ _ (by rw[dH];omega),hB,hB,Xc]
   have Gh:∀K hs K' (L:List aa),(B K hs++L).set fp (.cells (K'.l mp) 88)=B K' hs++L:=λK hs K' L=>by
    rw[UX _ _ (by rw[dH];omega),hB,hB,List.set_comm _ _ (λe=>mD e.symm),Xc]
   have R8:H1.set fp (.cells (R2.l mp) 88)=B R2 R2.aM:=by
    rw[hB];symm;exact rj (by rw[Uc mD,Gc,K1,CX])
   have aS:∀K hs (L:List aa),(B K hs++L)[H1.length]?=L[0]?:=λK hs L=>(by rw[<- dH K hs];exact aW _ L 0);have c_:∀K hs (L:List aa),(B K hs++L)[H1.length+1]?=L[1]?:=λK hs L=>(by rw[<- dH K hs];exact aW _ L 1);have kF:∀K hs (L:List aa),(B K hs++L)[H1.length+2]?=L[2]?:=λK hs L=>(by rw[<- dH K hs];exact aW _ L 2);have Ly:(G.l mg).drop 1=.mp mg::((G.l mg).drop 2):=rfl;have Sj:∀K:Kn,(K.l mp).drop 1=.mp mp::((K.l mp).drop 2):=λ_=>rfl;have cL:∀(K:Kn)(hs:List (List Int)),bF (B K hs):=λK hs=>by
    intro z hz;rw[dH];rw[hB]at hz;rcases UF hz with hz|rfl
    ·rcases UF hz with hz|rfl
     ·rw[lW]at hz;rcases UF hz with hz|rfl
      ·exact cS▸hH z hz
      ·intro a ha;simp only[Kn.l,SK,SS,Tm]at ha;rcases ha with rfl|rfl|⟨_,_,rfl⟩|⟨_,_,rfl⟩|⟨_,_,rfl⟩|⟨_,_,rfl⟩|⟨_,_,rfl⟩
       ·exact .val _
       ·exact .mp (by omega)
       all_goals exact .val _
     ·intro a ha;simp only[Kn.l,SK,SS,Tm]at ha;rcases ha with rfl|rfl|⟨_,_,rfl⟩|⟨_,_,rfl⟩|⟨_,_,rfl⟩|⟨_,_,rfl⟩|⟨_,_,rfl⟩
      ·exact .val _
      ·exact .mp (by omega)
      all_goals exact .val _
    ·trivial
   have ep:∀(hs:List (List Int))(K:Kn)(L:List aa),hs.Perm G.aM->ig Q hs G=K->cJ H1.length (B K K.aM++L) (.aO []) k:=λhs K L hp hK=>by
    have:=hk hs hp;rw[hK]at this;subst hK;refine jI (Wk.refl _) rfl (by rw[dH];exact SP _) (cL _ _) (by simp[jV]) ?_;rw[hB,lW,Xc];exact this
   rw[R8];clear hk R8;refine ah ?_;simp only[seval,aS,Ly,Ge];rw[dH];have aad:∀K hs (L:List aa) z,(B K hs++L).set (H1.length+1) z=B K hs++L.set 1 z:=λK hs L z=>by
    rw[Ud _ _ (by rw[dH];omega),dH,TZ]
   have akQ:∀K hs (L:List aa) z,(B K hs++L).set (H1.length+2) z=B K hs++L.set 2 z:=λK hs L z=>by
    rw[Ud _ _ (by rw[dH];omega),dH,TZ]
   obtain⟨ts,dX⟩:∃ts,ts=G.aM.zipIdx:=⟨_,rfl⟩;obtain⟨ck,Gy⟩:∃ck,ck=G.aM.length:=⟨_,rfl⟩;rw[<- dX,<- Gy]at Ge;rw[<- Gy];have hb:∀y∈ts,y.2<ck:=λy hy=>(by rw[dX]at hy;have:=List.snd_lt_add_of_mem_zipIdx hy;omega);have Dr:(ts.map (·.2)).Nodup:=(by rw[dX,show (λy:List Int×Nat=>y.2)=Prod.snd from rfl,List.zipIdx_map_snd];exact List.nodup_range');have h4:∀y∈ts,y.1.length=4:=λy hy=>(by rw[dX]at hy;exact hG.h4 _ (E_ hy));have eQ:=P8 ts ck hb;have MF:ts.map (·.1)=G.aM:=(by rw[dX,show (λy:List Int×Nat=>y.1)=Prod.fst from rfl,List.zipIdx_map_fst]);clear dX;obtain⟨ac,Gn⟩:∃ac:List (List Int×Nat)->List (List Int),∀vs,ac vs=vs.foldl (λa y=>jW a y.1) R2.aM:=⟨_,λ_=>rfl⟩;have Sx:ac []=R2.aM:=(by rw[Gn];rfl);have K3:∀vs y,ac (vs++[y])=jW (ac vs) y.1:=λvs y=>(by rw[Gn,Gn,Ya];rfl);obtain⟨i3,qK,pY⟩:=F.i3;refine bU ?_;refine z9 (measure λvs:List (List Int×Nat)=>ts.length-vs.length).wf (λvs=>[]) (λvs=>B R2 (ac vs)++[.cells (G.l mg) 88,.iter mg ck (vs.map (·.2)).toArray ck]) (λvs=>(vs.map (·.2)).Nodup/\(∀y∈vs,y∈ts)/\∀h∈ac vs,h.length=4) [] (λ_ _=>rfl) (by simp) (by rw[Sx];rfl) (λ_ _=>by simp[dH]) ⟨by simp,by simp,by rw[Sx,K1];exact hQ.h4⟩ (λbC bW vs aq R hR=> ?_);refine ah ?_;simp only[seval,c_,Ge,aad];refine⟨eQ.elim .inl (λh=> .inr (.inl h)),λe he hn=> ?_,λhs=> ?_⟩
   ·obtain⟨y,hy,rfl⟩:∃y∈ts,eF y=e:=(by simpa using he);refine aD ?_;refine aK ?_;refine bU ?_;have tx:=h4 y hy;have Lb:(eF y).born=y.2:=rfl;have hlen:(y.1.map iv).length=4:=(by simp[tx]);have Lm:T5 4 [AV.val (SF SD 0),AV.val (SF SD 0),AV.val (SF SD 0),AV.val (SF SD 0)]=[]:=rfl;refine ah ?_;simp only[seval,c_,Ge,aad,akQ,kF,dH,Array.back?_push,Lb,Rp Dr hy,acr,tx,hlen,Lm];refine eO 10 ?_;simp only[seval,oM,Sj,R7,kF,hlen,tx];have aa6:Uh 4 (y.1.map iv)=y.1.map iv:=SV (by omega);have KM:∀z∈(ac vs).zipIdx,z.1.length=4:=λz hz=>aq.2.2 _ (E_ hz);have GD:=adZ (ts:=(ac vs).zipIdx) F.EU F.u3 qK pY tx KM;have Gx:=λb=>adV (b:=b) (k:=.i64) (d:=9998) F.EU F.u3 qK pY tx;have G5:((vs.map (·.2)).toArray.push y.2)=((vs++[y]).map (·.2)).toArray:=(by simp);have MP:y.2∉vs.map (·.2):=(by simpa[eF]using hn);have tV:((vs++[y]).map (·.2)).Nodup/\(∀z∈vs++[y],z∈ts)/\∀h∈ac (vs++[y]),h.length=4:=by
     refine⟨?_,λz hz=> ?_,λh hh=> ?_⟩
     ·rw[Tn,Vd];refine⟨aq.1,by simp,λa ha b hb=> ?_⟩;simp at hb;subst hb;intro e;subst e;exact MP ha
     ·rcases SS.1 hz with h|h
      ·exact aq.2.1 z h
      ·rw[S9.1 h];exact hy
     ·rw[K3,jW]at hh;split at hh
      ·exact aq.2.2 _ hh
      ·rcases SS.1 hh with h'|h'
       ·exact aq.2.2 _ h'
       ·rw[S9.1 h'];exact tx
    have hlen:vs.length<ts.length:=by
     have h1:(vs++[y]).Nodup:=Em _ tV.1;have:=h1.length_le_of_subset tV.2.1;simp at this;omega
    have sg:ts.length-(vs++[y]).length<ts.length-vs.length:=(by simp;omega);have GY:∀sn,bF (B R2 (ac (vs++[y]))++[aa.cells (G.l mg) 88,aa.iter mg ck sn ck]):=λsn z hz=>by
     rcases SS.1 hz with h|h
     ·exact(cL _ _ z h).mono (by simp)
     ·have tD:∀a∈G.l mg,Lt H1.length a:=λa ha=>by
       simp only[Kn.l,SK,SS,Tm]at ha;rcases ha with rfl|rfl|⟨_,_,rfl⟩|⟨_,_,rfl⟩|⟨_,_,rfl⟩|⟨_,_,rfl⟩|⟨_,_,rfl⟩
       ·exact .val _
       ·exact .mp (by omega)
       all_goals exact .val _
      simp only[SK,SZ,or_false]at h;rcases h with rfl|rfl
      ·intro a ha;exact(tD a ha).mono (by simp[dH])
      ·show mg<_;simp[dH];omega
    rw[aa6];refine ew F.Ps (ew (zr _) ⟨Gx _,_,GD,?_⟩);rcases Kt (x:=y.1) (hs:=ac vs)with⟨h,Ds⟩|⟨i',b,h,h2,Ds⟩
    ·rw[h];(try simp only[seval,AV.found]);refine aj ?_;refine aD ?_;refine eO 5 ?_;simp only[seval,oM,Sj,R7,kF,hlen,tx];rw[aa6];refine ew (zr _) (ew rfl ⟨Gx _,_,GD,?_,?_⟩)
     ·intro i v pP;rw[h]at pP;cases pP
     ·rw[h,acO,<- adl,akA,show ac vs++[y.1]=ac (vs++[y]) by rw[K3,jW,if_neg Ds],G5];refine hR _ ⟨vs++[y],sg,tV,?_⟩;exact Bu (lL rfl rfl) (by simp only[seval]<;>simp[a_,Wk.refl]) (GY _) (by simp[ec])
    ·rw[h];(try simp only[seval,AV.found]);refine aj ?_;refine aD ?_;refine aK ?_;rw[show ac vs=ac (vs++[y]) by rw[K3,jW,if_pos Ds],G5];refine hR _ ⟨vs++[y],sg,tV,?_⟩;exact Bu (lL rfl rfl) (by simp only[seval]<;>simp[a_,Wk.refl]) (GY _) (by simp[ec])
   ·have hp:vs.Perm ts:=ac8 aq.1 Dr aq.2.1 λy hy=>by
     have:=hs (eF y) (by simp;exact⟨y.1,y.2,hy,rfl⟩) (hb y hy);simpa[eF]using this
    refine aD ?_;refine bR ?_;obtain⟨K,hK⟩:∃K:Nat->Nat->Kn,∀i j,K i j={R2 with aA:=ov R2.aA G.aA i,hours:=ov R2.hours G.hours i,less:=ov R2.less G.less i,aX:=ov R2.aX G.aX j}:=⟨_,λ_ _=>rfl⟩;have Si:K 0 0=R2:=(by rw[hK];rfl);refine aj ?_;refine bU ?_;refine eI 4 (λi:Nat=>[(57,iv i)]) (λi=>B (K i 0) (ac vs)++[.cells (G.l mg) 88,.iter mg ck (vs.map (·.2)).toArray ck]) (λi=>bM (K i 0)) (λ_ _=>rfl) (by simp only[seval];simp[a_,Wk.refl]) (by rw[Si]) (λ_ _ _=>by simp[dH]) (by rw[Si];exact vb) (λauD auH i cK vB R hR=> ?_);refine aj ?_;refine aD ?_;refine⟨λh=> ?_,λh=> ?_⟩
    ·have bx:i<4:=(by omega);obtain⟨a1,rV⟩:=bK (xs:=(K i 0).aA) (i:=i) (by have:=vB.aA;omega);obtain⟨a2,C0⟩:=bK (xs:=(K i 0).hours) (i:=i) (by have:=vB.hours;omega);obtain⟨a3,Gm⟩:=bK (xs:=(K i 0).less) (i:=i) (by have:=vB.less;omega);obtain⟨c1,du⟩:=bK (xs:=G.aA) (i:=i) (by have:=hG.aA;omega);obtain⟨c2,cq⟩:=bK (xs:=G.hours) (i:=i) (by have:=hG.hours;omega);obtain⟨c3,dw⟩:=bK (xs:=G.less) (i:=i) (by have:=hG.less;omega);have D8:=vB.mP _ (S8 rV);have la2:=vB.nb _ (S8 C0);have la3:=vB.nk _ (S8 Gm);have Ea:=hG.mP _ (S8 du);have lc2:=hG.nb _ (S8 cq);have lc3:=hG.nk _ (S8 dw);have b4:(0<=(i:Int)/\(i:Int)<4)=True:=(by simp;omega);have bJ:SD.wrap ((i:Int)+1)=((i+1:Nat):Int):=(by rw[br _ (by omega)];rfl);refine aK ?_;refine aj ?_;obtain⟨Ka,CW⟩:∃Ka,Ka=({K i 0 with aA:=(K i 0).aA.set i (a1|||c1)}:Kn):=⟨_,rfl⟩;have HV:bM Ka:=(by rw[CW];exact vB.adp (qh D8 Ea));have sa:=Kn.aco (F:=K i 0) (mp:=mp) (p:=i) (v:=a1|||c1) (eX rV);rw[<- CW]at sa;refine eO 13 ?_;simp only[seval,oM,aS,b4,Kn.HT rV,Kn.HT du,Ch,H7 D8 Ea,Kn.len vB mp];refine⟨by omega,?_⟩;rw[sa,Gh];obtain⟨Kb,Gi⟩:∃Kb,Kb=({Ka with hours:=Ka.hours.set i (a2|||c2)}:Kn):=⟨_,rfl⟩;have HW:bM Kb:=(by rw[Gi];exact HV.adn (qh la2 lc2));have yw:Ka.hours[i]?=some a2:=(by rw[CW];exact C0);have sb:=Kn.aaS HV (mp:=mp) (p:=i) (v:=a2|||c2) (eX yw);rw[<- Gi]at sb;refine eO 13 ?_;simp only[seval,oM,aS,b4,Kn.Mb HV yw,Kn.Mb hG cq,Ch,H7 la2 lc2,Kn.len HV mp];refine⟨by omega,?_⟩;rw[sb,Gh];have Gr:Kb.less[i]?=some a3:=(by rw[Gi,CW];exact Gm);have sc:=Kn.abF HW (mp:=mp) (p:=i) (v:=a3|||c3) (eX Gr);have yo:({Kb with less:=Kb.less.set i (a3|||c3)}:Kn)=K (i+1) 0:=by
      rw[Gi,CW,hK (i+1)];simp only[hK]at rV C0 Gm⊢;rw[H6 rV du,H6 C0 cq,H6 Gm dw]
     have NO:bM (K (i+1) 0):=(by rw[<- yo];exact HW.ado (qh la3 lc3));rw[yo]at sc;refine eO 13 ?_;simp only[seval,oM,aS,b4,Kn.Nq HW Gr,Kn.Nq hG dw,Ch,H7 la3 lc3,Kn.len HW mp];refine⟨by omega,?_⟩;rw[sc,Gh];refine ah ?_;simp only[seval,bJ];exact hR _ ⟨bx,NO,cz⟩
    ·have dD:i=4:=(by omega);subst dD;refine bR ?_;refine aj ?_;refine bU ?_;refine eI 3 (λi:Nat=>[(103,iv i)]) (λj=>B (K 4 j) (ac vs)++[.cells (G.l mg) 88,.iter mg ck (vs.map (·.2)).toArray ck]) (λj=>bM (K 4 j)) (λ_ _=>rfl) (by simp only[seval];simp[a_,Wk.refl]) rfl (λ_ _ _=>by simp[dH]) vB (λauE auI j mE AU R hR=> ?_);refine aj ?_;refine aD ?_;refine⟨λh=> ?_,λh=> ?_⟩
     ·have dP:j<3:=(by omega);obtain⟨a1,rV⟩:=bK (xs:=(K 4 j).aX) (i:=j) (by have:=AU.aX;omega);obtain⟨c1,du⟩:=bK (xs:=G.aX) (i:=j) (by have:=hG.aX;omega);have D8:=AU.mm _ (S8 rV);have Ea:=hG.mm _ (S8 du);have b3:(0<=(j:Int)/\(j:Int)<3)=True:=(by simp;omega);have bJ:SD.wrap ((j:Int)+1)=((j+1:Nat):Int):=(by rw[br _ (by omega)];rfl);refine aK ?_;refine aj ?_;have sa:=Kn.acH AU (mp:=mp) (p:=j) (v:=a1|||c1) (eX rV);have yo:({K 4 j with aX:=(K 4 j).aX.set j (a1|||c1)}:Kn)=K 4 (j+1):=by
       rw[hK 4 (j+1)];simp only[hK]at rV⊢;rw[H6 rV du]
      have NO:bM (K 4 (j+1)):=(by rw[<- yo];exact AU.EI (qh D8 Ea));rw[yo]at sa;refine eO 13 ?_;simp only[seval,oM,aS,b3,Kn.EA AU rV,Kn.EA hG du,Ch,H7 D8 Ea,Kn.len AU mp];refine⟨by omega,?_⟩;rw[sa,Gh];refine ah ?_;simp only[seval,bJ];exact hR _ ⟨dP,NO,cz⟩
     ·have LQ:j=3:=(by omega);subst LQ;refine bR ?_;have Mf:(vs.map (·.1)).Perm G.aM:=by
       have:=hp.map (·.1);rw[MF]at this;exact this
      have akF:ac vs=(vs.map (·.1)).foldl jW Q.aM:=(by rw[Gn,K1,List.foldl_map]);have hJ:ig Q (vs.map (·.1)) G={K 4 3 with aM:=ac vs}:=by
       have e2:R2=⟨true,Q.aM,Q.aA,Q.hours,Q.less,Q.aX,if Q.has=false\/te G.first Q.first=true then G.first else Q.first⟩:=by
        rw[jl,qF];split<;>rfl
       rw[ig,if_pos LB,hK,H5 (by rw[vb.aA,hG.aA]) vb.aA,H5 (by rw[vb.hours,hG.hours]) vb.hours,H5 (by rw[vb.less,hG.less]) vb.less,H5 (by rw[vb.aX,hG.aX]) vb.aX,akF,e2]
      have:=ep (vs.map (·.1)) _ [.cells (G.l mg) 88,.iter mg ck (vs.map (·.2)).toArray ck] Mf hJ;rw[show B ({K 4 3 with aM:=ac vs}:Kn) (ac vs)=B (K 4 3) (ac vs) by rw[hB,hB];rfl]at this;exact this
open Go.Conc Go.Proofs Go.Gg.Tk
namespace Tk
theorem Cl{l:List Nat}{i v:Nat}:(pz l i v).length=l.length:=by simp[pz]
theorem FD{l:List Nat}{i v:Nat}(h:∀n∈l,n<65536)(hv:v<16):∀n∈pz l i v,n<65536:=by
 refine Eh h (qh ?_ (xz hv));rw[SE];cases hi:l[i]?with
 |none=>exact(by decide:0<65536)
 |some a=>exact h _ (S8 hi)
theorem asy{x:ak}{t:List Int}(ht:jF x t){p:Nat}(hp:p<x.pieces.length):mT t p<16:=by
 obtain⟨n,h1,h2,_⟩:=ht.num p hp;unfold mT;rw[SE,h1];show n<16;omega
theorem asx{t:List Int}(h:t.length=11){p:Nat}:EO t p<16:=by
 unfold EO;have h5:jz (t.take 4) (t.getD (4+p) 0+t.getD 0 0)<0+(t.take 4).length:=aee;have:(t.take 4).length=4:=by simp[h]
 omega
theorem asz{x:ak}{t:List Int}(ht:jF x t){s:Nat}(hs:s<x.aC.length):sI t s<16:=by
 obtain⟨n,h1,h2⟩:=ht.own s hs;unfold sI;rw[SE,h1];show n<16;omega
theorem acG{x:ak}{t:List Int}(ht:jF x t){l:List Nat}(hl:∀n∈l,n<65536):∀{s:Nat},s<=x.aC.length->(nq t s l).length=l.length/\∀n∈nq t s l,n<65536
 |0,_=>⟨rfl,hl⟩
 |s+1,h=>by
  obtain⟨h1,h2⟩:=acG ht hl (s:=s) (by omega);exact⟨Cl.trans h1,FD h2 (asz ht (by omega))⟩
theorem ack{x:ak}{t:List Int}(ht:jF x t){l:List Nat}(hl:∀n∈l,n<65536):∀{s:Nat},s<=x.pieces.length->(sA t s l).length=l.length/\∀n∈sA t s l,n<65536
 |0,_=>⟨rfl,hl⟩
 |s+1,h=>by
  obtain⟨h1,h2⟩:=ack ht hl (s:=s) (by omega);exact⟨Cl.trans h1,FD h2 (asy ht (by omega))⟩
theorem aaR{t:List Int}(ht:t.length=11){l:List Nat}(hl:∀n∈l,n<65536):∀{s:Nat},(w9 t s l).length=l.length/\∀n∈w9 t s l,n<65536
 |0=>⟨rfl,hl⟩
 |s+1=>by
  obtain⟨h1,h2⟩:=aaR ht hl (s:=s);exact⟨Cl.trans h1,FD h2 (asx ht)⟩
theorem abE{t:List Int}{p:Nat}{l:List Nat}(hl:∀n∈l,n<65536):∀{q:Nat},q<=4->(xg t p q l).length=l.length/\∀n∈xg t p q l,n<65536
 |0,_=>⟨rfl,hl⟩
 |q+1,h=>by
  obtain⟨h1,h2⟩:=abE hl (q:=q) (t:=t) (p:=p) (by omega);unfold xg;split
  ·exact⟨Cl.trans h1,FD h2 (by omega)⟩
  ·exact⟨h1,h2⟩
theorem abD{t:List Int}{k:Nat}(hk:k<=4){l:List Nat}(hl:∀n∈l,n<65536):∀{p:Nat},(zf t k p l).length=l.length/\∀n∈zf t k p l,n<65536
 |0=>⟨rfl,hl⟩
 |p+1=>by
  obtain⟨h1,h2⟩:=abD hk hl (p:=p) (t:=t);obtain⟨h3,h4⟩:=abE h2 (t:=t) (p:=p) hk;exact⟨h3.trans h1,h4⟩
theorem acL{hs:List (List Int)}{h:List Int}(h1:∀y∈hs,y.length=4)(h2:h.length=4):∀y∈jW hs h,y.length=4:=λy hy=>by
 unfold jW at hy;split at hy
 ·exact h1 y hy
 ·rcases SS.1 hy with h'|h'
  ·exact h1 y h'
  ·rw[S9.1 h'];exact h2
theorem OP{x:ak}{deep:Int}{Q:Kn}{t:List Int}(hx:x.Ok)(ht:jF x t)(hQ:bM Q):bM (eK x deep Q t):=by
 have hB:=PZ hQ ht.len;unfold eK;dsimp only;generalize j7 Q t=R at hB;split
 ·obtain⟨h1,h2⟩:=acG ht hB.mm (SP _);exact⟨hB.aA,hB.hours,hB.less,h1.trans hB.aX,hB.first,hB.mP,hB.nb,hB.nk,h2,hB.h4⟩
 ·split
  ·exact⟨hB.aA,hB.hours,hB.less,hB.aX,hB.first,hB.mP,hB.nb,hB.nk,hB.mm,acL hB.h4 (by simp[ht.len])⟩
  ·obtain⟨h1,h2⟩:=ack ht hB.mP (SP _);obtain⟨h3,h4⟩:=aaR ht.len hB.nb (s:=x.pieces.length);obtain⟨h5,h6⟩:=abD (t:=t) hx.ey hB.nk (p:=x.pieces.length);exact⟨h1.trans hB.aA,h3.trans hB.hours,h5.trans hB.less,hB.aX,hB.first,h2,h4,h6,hB.mm,hB.h4⟩
theorem OW{x:ak}{deep:Int}{h t:List Int}(ht:t∈jA x deep h):∃ns∈gg x h,t∈(iE x h ns).map (dE h ns):=by
 have key:t∈((gg x h).map λns=>(iE x h ns).map λos=>dE h ns os).flatten:=by
  unfold jA at ht;dsimp only at ht;split at ht
  ·exact VQ ht
  ·split at ht
   ·obtain⟨l,h1,h2⟩:=XO.1 ht;obtain⟨m,h3,rfl⟩:=Tm.1 h1;exact XO.2 ⟨m,h3,VQ h2⟩
   ·exact ht
 obtain⟨l,h1,h2⟩:=XO.1 key;obtain⟨ns,h3,rfl⟩:=Tm.1 h1;exact⟨ns,h3,h2⟩
theorem D7:bM Kn.zero:=by
 have h0:∀k:Nat,∀n∈TM k 0,n<65536:=λk n h=>by rw[(XB.1 h).2];decide
 exact⟨rfl,rfl,rfl,rfl,rfl,h0 4,h0 4,h0 4,h0 3,λh hh=>by cases hh⟩
theorem KE{x:ak}{deep:Int}(hx:x.Ok):∀{ts:List (List Int)}{Q:Kn},(∀t∈ts,jF x t)->bM Q->bM (ts.foldl (eK x deep) Q)
 |[],Q,_,h=>h
 |t::ts,Q,ht,h=>by rw[UY];exact KE hx (λu hu=>ht u (by simp[hu])) (OP hx (ht t (by simp)) h)
end Tk
theorem y9{K:Kn}{mp m:Nat}(h:mp<m):∀a∈K.l mp,Lt m a:=λa ha=>by
 simp only[Kn.l,SK,SS,Tm]at ha;rcases ha with rfl|rfl|⟨_,_,rfl⟩|⟨_,_,rfl⟩|⟨_,_,rfl⟩|⟨_,_,rfl⟩|⟨_,_,rfl⟩
 ·exact .val _
 ·exact .mp h
 all_goals exact .val _
theorem Hy{K:Kn}{mp m:Nat}(h:∀a∈K.l mp,Lt m a):mp<m:=by
 cases h (.mp mp) (by simp[Kn.l]);assumption
def cs:Ub->Ub
 |.seq _ c=>c
 |_=> .skip
def cf:Ub->Ub
 |.seq c _=>c
 |_=> .skip
noncomputable def abr:Ub:=avk.body.getD .skip
def vP (x:ak)(bm:Nat)(deep:Int)(c:Nat)(w:SQ):List (Nat×AV):=[(12,.fn (.func 86) [] [.op 2 0,.op 3 0]),(5,.op 1 0),(0,.val w),(1,.rp x.l),(2,.rp [iv bm]),(3,.rp [iv deep]),(4,.rp [.val (.chan (some c))])]
def xe (x:ak)(bm:Nat)(K:Kn):List aa:=[setH K.aM,.cells (K.l 0) 88,.cells x.l 76,.cells [iv bm] 3]
theorem am3{lv:Bool}{x:ak}{bm c:Nat}{w:SQ}{deep:Int}{bs:List U3}(hx:x.Ok)(mc:bm<=3)(hA:∀h∈kU x bm,mX h/\∀ns∈gg x h,∀a∈(iE x h ns).map (dE h ns),jF x a)(Φ:an->AS->List Nat->Prop)(hΦ:Φ .normal ⟨vP x bm deep c w,xe x bm (gU x deep bm)++[.obj (.deferred (some [])),.gone]⟩ [4]):
  kM lv SA 25 bs (cs (cf (cs (cs abr)))) ⟨vP x bm deep c w,xe x bm Kn.zero⟩ [] Φ:=by
 unfold abr avk;dsimp only[S7,cs,cf];refine xV ?_;refine Jr (by rfl) λl fn T ag bo hT yr qJ=> ?_;(try simp only[seval,xe]);simp only[vP,iv]at hT;have bS:x.l=[iv x.first,iv x.hours,iv x.am,dt x.seen,aT x.pieces,aT x.aC]:=rfl;obtain⟨Gf,u_⟩:∃Gf:Kn->List aa,∀K,Gf K=[setH K.aM,.cells (K.l 0) 88,.cells x.l 76,.cells [iv bm] 3,.obj (.deferred (some [])),.loop l .ready none fn T 25 #[13] ag bo 4]:=⟨_,λ_=>rfl⟩;have tD:∀K,(Gf K).length=6:=λK=>by rw[u_];rfl
 have akB:∀m K K',(∀z∈Gf K,e_ m z)->∀z∈Gf K',e_ m z:=λm K K' hz z fl=>by
  rw[u_]at hz fl;have h1:=hz (.cells (K.l 0) 88) (by simp);simp only[SK,SZ,or_false]at fl;rcases fl with rfl|rfl|rfl|rfl|rfl|rfl
  ·trivial
  ·exact y9 (Hy h1)
  ·exact hz _ (by simp)
  ·exact hz _ (by simp)
  ·exact hz _ (by simp)
  ·exact hz _ (by simp)
 have hY:j6 lv SA (.fn (.yield l) [] []) (λK h=> .go ((jA x deep h).foldl (eK x deep) K)) Gf 6 bM (λh=>mX h/\∀ns∈gg x h,∀a∈(iE x h ns).map (dE h ns),jF x a) (.aO []):=by
  refine⟨λK h M k kp hK ha dK=> ?_,λK h K' hK ha he=> ?_,tD,akB,rfl,rfl,rfl⟩
  ·obtain⟨pO,DU⟩:=ha;have h4:=pO.len;have nS:(h.map iv).length=4:=(by rw[Ta,h4]);obtain⟨Lo,lA⟩:∃Lo,Lo=aa.loop l .busy none fn T 25 #[13] ag bo 4:=⟨_,rfl⟩;obtain⟨P1,dB⟩:∃P1:Kn->List aa,∀K,P1 K=[setH K.aM,.cells (K.l 0) 88,.cells x.l 76,.cells [iv bm] 3,.obj (.deferred (some [])),Lo]++M:=⟨_,λ_=>rfl⟩;have eC:∀K,(P1 K).length=6+M.length:=λK=>(by rw[dB];simp;omega);have pg:∀(K:Kn)(L:List aa)(i:Nat),i<6->(P1 K++L)[i]?=[setH K.aM,aa.cells (K.l 0) 88,.cells x.l 76,.cells [iv bm] 3,.obj (.deferred (some [])),Lo][i]?:=λK L i LJ=>by
    rw[dB,SC,SY (by simpa using LJ)]
   have pb:∀(K:Kn)(L:List aa)(i:Nat),(P1 K++L)[6+M.length+i]?=L[i]?:=λK L i=>(by rw[<- eC K,aW]);have xo:∀(K:Kn)(L:List aa),(P1 K++L)[6+M.length]?=L[0]?:=λK L=>pb K L 0;have qi:∀(K:Kn)(L:List aa)(y:aa),(P1 K++L).set (6+M.length+4) y=P1 K++L.set 4 y:=λK L y=>(by rw[<- eC K,dL]);have s5:∀(K:Kn)(L:List aa) y,(P1 K++L).set 5 y=[setH K.aM,.cells (K.l 0) 88,.cells x.l 76,.cells [iv bm] 3,.obj (.deferred (some [])),y]++M++L:=λK L y=>(by rw[dB];rfl);have Bi:∀(K K':Kn)(L L':List aa),L'.length=L.length->(∀q,(∀z∈L,e_ q z)->∀z∈L',e_ q z)->bF (P1 K++L)->bF (P1 K'++L'):=λK K' L L' hl hL hH z hz=>by
    have hlen:(P1 K'++L').length=(P1 K++L).length:=(by simp[eC,hl]);rw[hlen];rcases SS.1 hz with h'|h'
    ·rw[dB]at h';rcases SS.1 h' with h'|h'
     ·have h1:=hH (.cells (K.l 0) 88) (by rw[dB];simp);have hq:∀w∈[setH K.aM,aa.cells (K.l 0) 88,.cells x.l 76,.cells [iv bm] 3,.obj (.deferred (some [])),Lo],e_ (P1 K++L).length w:=λw hw=>hH w (by rw[dB,SC];exact Th _ hw);simp only[SK,SZ,or_false]at h';rcases h' with rfl|rfl|rfl|rfl|rfl|rfl
      ·trivial
      ·exact y9 (Hy h1)
      ·exact hq _ (by simp)
      ·exact hq _ (by simp)
      ·exact hq _ (by simp)
      ·exact hq _ (by simp)
     ·exact hH z (by rw[dB];simp[h'])
    ·exact hL _ (λw hw=>hH w (S4 _ hw)) z h'
   simp only[cZ]at dK;rw[u_]at dK;rw[u_];subst hT yr qJ;refine wA (id:=5) (by rfl) rfl (by kernel_rfl) λoN KO=> ?_;simp only[sP];have wT:T5 4 [iv 0,iv 0,iv 0,iv 0]=[]:=rfl;refine ah ?_;simp only[seval,vP,h4,wT];unfold uK;refine⟨none,fn,_,25,#[13],_,_,_,by rfl,?_⟩;dsimp only;simp only[UK,T9];rw[<- lA];have ym:M.length+1+1+1+1+1+1=6+M.length:=(by omega);rw[ym];have yD:∀z:aa,(setH K.aM::aa.cells (K.l 0) 88::aa.cells x.l 76::aa.cells [AV.val (SF SD ↑bm)] 3::aa.obj (avA (some []))::Lo::(M++[z]))=P1 K++[z]:=λz=>(by rw[dB];rfl);rw[yD];refine ah ?_;simp only[seval,bS,xo,h4,nS];rw[SV (i:=4) (l:=h.map iv) (by rw[nS];exact SP _)];refine aH ((Kk (x:=x) (h:=h) (deep:=deep) ?_));(try simp only[seval]);refine bU ?_;have oY:∀(K:Kn)(a b c d:aa),(P1 K++[a,b,c,d]).length=6+M.length+4:=λK a b c d=>(by simp[eC]);refine FK 5 (by rfl) (by show (P1 K++_)[5]?=_;rw[pg K _ 5 (by omega),lA];rfl) λl2 eW T2 gI gJ oO yu yx=> ?_;simp only[seval];rw[eC]at oO⊢;have yq:j6 lv SA (.fn (.yield l2) [] []) (λK t=> .go (eK x deep K t)) (λK=>P1 K++[.cells (h.map iv) 83,.cells x.l 76,.cells (h.map iv) 83,.cells [iv deep] 3,.loop l2 .ready none eW T2 25 #[18] gI gJ 4]) (6+M.length+5) bM (jF x) (.aO []):=by
    refine⟨λK' t M2 k2 y_ KV ht lG=> ?_,λK' t BZ KV ht he=> ?_,λK'=>by simp[eC],λq K' BZ hz z fl=> ?_,rfl,rfl,rfl⟩
    ·have od:=ht.len;have A6:(t.map iv).length=11:=(by rw[Ta,od]);obtain⟨qq,tE⟩:∃Lo,Lo=aa.loop l2 .busy none eW T2 25 #[18] gI gJ 4:=⟨_,rfl⟩;obtain⟨Q1,gr⟩:∃Q1:Kn->List aa,∀K,Q1 K=P1 K++([.cells (h.map iv) 83,.cells x.l 76,.cells (h.map iv) 83,.cells [iv deep] 3,qq]++M2):=⟨_,λ_=>rfl⟩;obtain⟨C,hC⟩:∃C,C=6+M.length+5+M2.length:=⟨_,rfl⟩;have K0:∀K,(Q1 K).length=C:=λK=>(by rw[gr,hC];simp[eC];omega);have mq:∀(K:Kn)(L:List aa),(P1 K++L)[6+M.length+4]?=L[4]?:=λK L=>pb K L 4;have q0:∀(K:Kn)(L:List aa),(Q1 K++L)[0]?=some (setH K.aM):=λK L=>(by rw[gr,SC];exact pg K _ 0 (by omega));have q1:∀(K:Kn)(L:List aa),(Q1 K++L)[1]?=some (.cells (K.l 0) 88):=λK L=>(by rw[gr,SC];exact pg K _ 1 (by omega));have q4:∀(K:Kn)(L:List aa),(Q1 K++L)[6+M.length+4]?=some qq:=λK L=>(by rw[gr,SC,mq];rfl);have qc:∀(K:Kn)(L:List aa),(Q1 K++L)[C]?=L[0]?:=λK L=>(by rw[<- K0 K];exact aW _ L 0);have Oi:∀(K:Kn)(L:List aa)(y:aa),(Q1 K++L).set (6+M.length+4) y=(P1 K++([.cells (h.map iv) 83,.cells x.l 76,.cells (h.map iv) 83,.cells [iv deep] 3,y]++M2))++L:=λK L y=>(by rw[gr,SC,qi];simp);have aqr:∀(K K':Kn)(L:List aa),((Q1 K++L).set 1 (.cells (K'.l 0) 88)).set 0 (setH K'.aM)=Q1 K'++L:=λK K' L=>(by rw[gr,gr,dB,dB];rfl);have fK:∀(BZ:Kn),bF (P1 K'++([.cells (h.map iv) 83,.cells x.l 76,.cells (h.map iv) 83,.cells [iv deep] 3,.loop l2 .ready none eW T2 25 #[18] gI gJ 4]++M2))->bF (P1 BZ++([.cells (h.map iv) 83,.cells x.l 76,.cells (h.map iv) 83,.cells [iv deep] 3,.loop l2 .ready none eW T2 25 #[18] gI gJ 4]++M2)):=λBZ iz=>Bi K' BZ _ _ rfl (λq hz=>hz) iz;simp only[cZ]at lG;have Lv:∀z:aa,P1 K'++(aa.cells (Vf iv h) 83::aa.cells x.l 76::aa.cells (Vf iv h) 83::aa.cells [AV.val (SF SD deep)] 3::qq::(M2++[z]))=Q1 K'++[z]:=λz=>(by rw[gr];simp[iv]);subst oO yu yx;rw[SC];refine wA (id:=6+M.length+4) (by rw[mq];rfl) rfl (by kernel_rfl) λrS KP=> ?_;simp only[sP];have Da:T5 11 [iv 0,iv 0,iv 0,iv 0,iv 0,iv 0,iv 0,iv 0,iv 0,iv 0,iv 0]=[]:=rfl;refine ah ?_;simp only[seval,od,Da];unfold uK;refine⟨none,eW,_,25,#[18],_,_,_,by rw[mq];rfl,?_⟩;dsimp only;rw[qi];simp only[UK,T9];rw[<- tE];have CQ:(P1 K').length+(M2.length+1+1+1+1+1)=C:=(by rw[eC,hC];omega);rw[CQ];have iV:∀z:aa,(P1 K'++aa.cells (Vf iv h) 83::aa.cells x.l 76::aa.cells (Vf iv h) 83::aa.cells [AV.val (SF SD deep)] 3::qq::(M2++[z]))=Q1 K'++[z]:=Lv;rw[iV];refine ah ?_;simp only[seval,bS,qc,od,A6];rw[SV (i:=11) (l:=t.map iv) (by rw[A6];exact SP _)];refine aH ((ajD (x:=x) (t:=t) (deep:=deep) (fp:=1) (mp:=0) (Q:=K') hx ht KV (by decide) (q1 K' _) (q0 K' _) ?_));rw[aqr];(try simp only[seval]);show py _ _ _ _ _ _ _;refine⟨l2,.busy,none,eW,_,25,#[18],_,_,4,by show (Q1 _++_)[_]?=_;rw[q4,tE],?_⟩;show cJ C ((Q1 _++_).set _ _) _ k2;rw[Oi];rw[SC]at lG;exact jI (G:=[.cells (t.map iv) 86]) (Wk.refl _) rfl (by rw[hC];simp[eC];omega) (fK _ rS) (.val _) lG
    ·cases he;exact OP hx ht KV
    ·rcases SS.1 fl with h'|h'
     ·have h1:=hz (.cells (K'.l 0) 88) (by rw[dB];simp);rw[dB]at h';rcases SS.1 h' with h'|h'
      ·simp only[SK,SZ,or_false]at h';rcases h' with rfl|rfl|rfl|rfl|rfl|rfl
       ·trivial
       ·exact y9 (Hy h1)
       all_goals exact hz _ (by rw[dB];simp)
      ·exact hz z (by rw[dB];simp[h'])
     ·exact hz z (S4 _ h')
   refine cC (Kq (x:=x) (h:=h) (deep:=deep) (ir:=6+M.length+1) (ih:=6+M.length+1+1) (id:=6+M.length+1+2) (σ:=K) hx pO yq (λK L=> ?_) (λK L=> ?_) (λK L=> ?_) (λn=>by simp[jV]) hK (λa ha=>ha.len) DU ?_)
   ·rw[SC];exact pb _ _ 1
   ·rw[SC];exact pb _ _ 2
   ·rw[SC];exact pb _ _ 3
   rw[EC (g:=eK x deep) (λ_ _=>rfl)];simp only[gk,SO];have mq:∀(K:Kn)(L:List aa),(P1 K++L)[6+M.length+4]?=L[4]?:=λK L=>pb K L 4;refine⟨.ready,none,_,_,_,_,_,_,_,by rw[mq];rfl,by decide,?_⟩;rw[qi,Ic];(try simp only[seval]);show py _ _ _ _ _ _ _;have auF:=lA;refine⟨l,.busy,none,fn,_,25,#[13],_,_,4,by show (P1 _++_)[_]?=_;rw[pg _ _ 5 (by omega),lA];rfl,?_⟩;show cJ (6+M.length) ((P1 _++_).set _ _) _ k;rw[s5];refine jI (G:=[.cells (h.map iv) 83,.cells x.l 76,.cells (h.map iv) 83,.cells [iv deep] 3,.gone]) (Wk.refl _) rfl (by simp;omega) ?_ (.val _) dK;intro z hz;have h1:=oN (.cells (K.l 0) 88) (by simp);have hlen:∀(y:aa),([setH (ag_ (eK x deep) K (jA x deep h)).aM,aa.cells ((ag_ (eK x deep) K (jA x deep h)).l 0) 88,.cells x.l 76,.cells [iv bm] 3,.obj (.deferred (some [])),y]++M).length=(setH K.aM::aa.cells (K.l 0) 88::aa.cells x.l 76:: .cells [iv bm] 3:: .obj (.deferred (some []))::y::M).length:=λy=>rfl;rcases SS.1 hz with h'|h'
   ·simp only[SK,SZ,or_false]at h';rcases h' with rfl|rfl|rfl|rfl|rfl|rfl
    ·trivial
    ·exact y9 (Hy h1)
    all_goals exact oN _ (by simp)
   ·exact oN z (by simp[h'])
  ·cases he;exact KE hx (λt ht=>by obtain⟨ns,h1,h2⟩:=OW ht;exact ha.2 ns h1 t h2) hK
 have hgo:bG (λK h=>dG.go ((jA x deep h).foldl (eK x deep) K)) (kU x bm) Kn.zero=.go (gU x deep bm):=by
  rw[EC (g:=λK h=>(jA x deep h).foldl (eK x deep) K) (λ_ _=>rfl),gU,List.foldl_flatMap]
 refine Jy (by kernel_rfl) ?_;have e0:=u_ Kn.zero;simp only[iv]at e0;rw[<- e0];refine Km (lv:=lv) (x:=x) (bm:=bm) (N:=6) (ir:=2) (it:=3) (σ:=Kn.zero) hx hY (λK L=>by rw[u_];rfl) (λK L=>by rw[u_];rfl) mc (λn=>by simp[jV]) D7 hA ?_;rw[hgo];simp only[gk,SO];refine⟨.ready,none,_,_,_,_,_,_,_,by rw[u_];rfl,by decide,?_⟩;rw[u_,Ib];exact hΦ
open Go.Conc
inductive Ht where
 |z
 |s (f:Tq->Ht)
inductive BX:Ht->Ht->Prop where
 |mk (f:Tq->Ht) (w:Tq):BX (f w) (.s f)
theorem amD:WellFounded BX:=by
 refine⟨λh=> ?_⟩;induction h with
 |z=>exact⟨_,λy hy=>by cases hy⟩
 |s f ih=>exact⟨_,λy hy=>by cases hy with|mk _ w=>exact ih w⟩
inductive lU (P:SI):Ht->View->SG->Prop where
 |step {f:Tq->Ht} {V V₁:View} {g:SG} (G':Tq->SG) (W':Tq->Tq) (E':Tq->Array Uu) (V':Tq->View) (hs:g.status=.running) (hg:d_ V V₁)
   (h1:∀w,Sat V₁ w->stepG P false g w=.go (G' w) (W' w) (E' w)) (h2:∀w,Sat V₁ w->dh V₁ w (V' w) (W' w) (E' w)) (h3:∀w,Sat V₁ w->lU P (f w) (V' w) (G' w)):lU P (.s f) V g
 |send {h:Ht} {V V₁:View} {g:SG} (c Wg:Nat) (sp:Spec) (S:List Spec) (v z:SQ) (B:Nat->Bool) (hs:g.status=.running) (hg:d_ V V₁) (hr:V₁.role=.work c Wg (sp::S)) (hd:V₁.deaf=0) (ho:g.offers=none)
   (h1:∀w,Sat V₁ w->stepG P false g w=.comm g #[scase c v z] true .send w #[]) (h2:sp v V₁.ab (λb=>if B b then V₁.own b else none))
   (h3:lU P h {V₁ with own:=λb=>if B b then none else V₁.own b,role:=.work c Wg S} (Ua g undef)):lU P (.s λ_=>h) V g
 |done {V V₁:View} {g:SG} (c Wg:Nat) (hg:d_ V V₁) (hr:V₁.role=.work c Wg []) (hd:V₁.deaf=0) (h1:Fo P Wg g):lU P (.s λ_=> .z) V g
 |slip {h:Ht} {V V₁:View} {g g':SG} (c Wg:Nat) (hs:g.status=.running) (hg:d_ V V₁) (hr:V₁.role=.work c Wg []) (h1:∀w st,Sat V₁ w->WgAt P Wg w st 0->stepG P false g w=.go g' w #[]) (h3:lU P h V₁ g'):lU P (.s λ_=>h) V g
theorem lU.running{P:SI}{h:Ht}{V:View}{g:SG}(k:lU P h V g):g.status=.running:=by
 cases k with
 |step _ _ _ _ hs=>exact hs
 |send _ _ _ _ _ _ _ hs=>exact hs
 |done _ _ _ _ _ h1=>exact h1.1
 |slip _ _ hs=>exact hs
open Classical in
theorem att(P:SI):zL P false (λV g=>∃h,lU P h V g)where
 step V g hs h:=by
  have hc:∀w,∃h' g' w' es V',Sat V w->stepG P false g w=.go g' w' es/\dh V w V' w' es/\lU P h' V' g':=by
   intro w;by_cases hw:Sat V w
   ·obtain⟨g',w',es,V',h1,h2,h',h3⟩:=h w hw;exact⟨h',g',w',es,V',λ_=>⟨h1,h2,h3⟩⟩
   ·exact⟨.z,g,w,#[],V,λx=>absurd x hw⟩
  have pI:=λw=>(hc w).choose_spec.choose_spec.choose_spec.choose_spec.choose_spec;exact⟨.s λw=>(hc w).choose,.step (λw=>(hc w).choose_spec.choose) (λw=>(hc w).choose_spec.choose_spec.choose) (λw=>(hc w).choose_spec.choose_spec.choose_spec.choose)
   (λw=>(hc w).choose_spec.choose_spec.choose_spec.choose_spec.choose) hs (d_.refl V) (λw hw=>(pI w hw).1) (λw hw=>(pI w hw).2.1) (λw hw=>(pI w hw).2.2)⟩
 ghost V V' g hg h:=by
  obtain⟨h,hk⟩:=h;cases hk with
  |step a b c d e f x y z=>exact⟨_,.step a b c d e (hg.trans f) x y z⟩
  |send a b c d e f m n o p q r s t u=>exact⟨_,.send a b c d e f m n (hg.trans o) p q r s t u⟩
  |done a b o p q r=>exact⟨_,.done a b (hg.trans o) p q r⟩
  |slip a b f o p q r=>exact⟨_,.slip a b f (hg.trans o) p q r⟩
 send V g c Wg sp S v z B h1 h2 h3 h4 h5 h6 h7:=by
  obtain⟨h,hk⟩:=h7;exact⟨_,.send c Wg sp S v z B h3 (d_.refl V) h1 h2 h4 h5 h6 hk⟩
 done V g c Wg h1 h2 h3:=⟨_,.done c Wg (d_.refl V) h1 h2 h3⟩
 slip V g g' c Wg h1 h2 h3 h4:=by
  obtain⟨h,hk⟩:=h4;exact⟨_,.slip c Wg h2 (d_.refl V) h1 h3 hk⟩
structure zX where
 a:Nat
 h:Ht
 n:Nat
def rE:zX->zX->Prop:=λx y=>x.a<y.a\/(x.a=y.a/\(BX x.h y.h\/(x.h=y.h/\x.n<y.n)))
theorem aqw:WellFounded rE:=by
 refine⟨λ⟨a,h,n⟩=> ?_⟩;induction a using Yo generalizing h n with
 |_ a iha=>
  induction h using amD.induction generalizing n with
  |_ h ihh=>
   induction n using Yo with
   |_ n MY=>
    refine⟨_,λ⟨a',h',n'⟩ hlt=> ?_⟩;rcases hlt with x|⟨rfl,x|⟨rfl,x⟩⟩
    ·exact iha a' x h' n'
    ·exact ihh h' x n'
    ·exact MY n' x
def B_ (N:Nat)(f' f:Nat->zX):Prop:=∃i,i<N/\rE (f' i) (f i)/\∀j,j≠i->f' j=f j
theorem arF(N:Nat):WellFounded (B_ N):=by
 refine⟨?_⟩;induction N with
 |zero=>intro f;exact⟨_,λf' ⟨i,hi,_⟩=>by omega⟩
 |succ N ih=>
  have key:∀x:zX,∀f,f N=x->Acc (B_ (N+1)) f:=by
   intro x;induction x using aqw.induction with
   |_ x ihx=>
    intro f hf;have inner:∀f,Acc (B_ N) f->f N=x->Acc (B_ (N+1)) f:=by
     intro f ha;induction ha with
     |intro f _ MX=>
      intro hf;refine⟨_,λf' ⟨i,hi,hlt,ho⟩=> ?_⟩;by_cases fC:i=N
      ·subst fC;exact ihx (f' i) (hf▸hlt) f' rfl
      ·exact MX f' ⟨i,by omega,hlt,ho⟩ ((ho N (Ne.symm fC)).trans hf)
    exact inner f (ih f) hf
  exactλf=>key (f N) f rfl
def B6 (N:Nat)(x y:(Nat->zX)×Nat):Prop:=B_ N x.1 y.1\/(x.1=y.1/\x.2<y.2)
theorem ab5(N:Nat):WellFounded (B6 N):=by
 refine⟨λ⟨f,n⟩=> ?_⟩;induction f using(arF N).induction generalizing n with
 |_ f MX=>
  induction n using Yo with
  |_ n MY=>
   refine⟨_,λ⟨f',n'⟩ hlt=> ?_⟩;rcases hlt with x|⟨x,y⟩
   ·exact MX f' x n'
   ·have x':f'=f:=x;subst x';exact MY n' y
open Go.ConcN
structure TI (t:Up)(B N:Nat)(rd wr:Nat->Loc->Prop)(Sh:Loc->Prop)(act:Nat->Prop)(ic:Nat):Prop where
 nr:∀said,¬Race said t
 low:∀op∈t,op.act.low B
 gs:∀op∈t,op.g<N
 norel:∀op∈t,∀a,op.act≠ .mark (.release a)
 kr:∀i,i<N->∀l,rd i l->PermW t i l
 kw:∀i,i<N->∀l,wr i l->Perm t i l
 sp:∀idx a,touchAt t idx=some a->Sh a.loc->(a.kind=.plain->∀i,act i->Wq t i idx)/\(a.kind=.said->Wq t ic idx)
def Fit (B:Nat)(rd wr:Nat->Loc->Prop)(Sh:Loc->Prop)(act:Nat->Prop)(ic i:Nat)(x:YK):Prop:=
 (Sh x.loc/\x.kind=.atomic/\act i)\/(Sh x.loc/\x.kind=.said/\i=ic/\act i)\/(¬Sh x.loc/\(wr i x.loc\/(rd i x.loc/\x.write=false)\/¬x.loc.low B))
theorem an6{B:Nat}{m:MemAct}(h:m.low B){x:YK}(hx:m.touch?=some x):x.loc.low B:=by
 cases m with
 |access e=>simp only[Wj,Tl]at hx;subst hx;exact h
 |mark m=>cases m<;>simp[Wj]at hx<;>(subst hx;exact h)
 |_=>simp[Wj]at hx
theorem OV{t:Up}{B:Nat}(h:∀op∈t,op.act.low B){idx:Nat}{a:YK}(ha:touchAt t idx=some a):a.loc.low B:=by
 obtain⟨x,hx,Hl⟩:=U1 ha;exact an6 (h x (XW hx)) Hl
theorem BH{t u:Up}{idx:Nat}{a:YK}(h:touchAt (t++u) idx=some a):touchAt t idx=some a\/(t.size<=idx/\∃op∈u,(t++u)[idx]?=some op/\op.act.touch?=some a):=by
 obtain⟨x,hx,Hl⟩:=U1 h;rcases Xn hx with⟨_,jT⟩|⟨hi,hu⟩
 ·exact .inl (by rw[touchAt_of jT];exact Hl)
 ·exact .inr ⟨hi,x,hu,hx,Hl⟩
theorem TI.app{t:Up}{B N B':Nat}{rd wr rd' wr':Nat->Loc->Prop}{Sh:Loc->Prop}{act:Nat->Prop}{ic:Nat}(h:TI t B N rd wr Sh act ic){u:Up}{i:Nat}(hi:i<N)(hu:∀op∈u,op.g=i)
  (hf:∀op∈u,∀x,op.act.touch?=some x->Fit B rd wr Sh act ic i x) (hl:∀op∈u,op.act.low B') (hB:B<=B') (hn:∀op∈u,∀a,op.act≠ .mark (.release a))
  (Mk:∀j l,j≠i->rd' j l->rd j l) (so:∀j l,j≠i->wr' j l->wr j l) (Ml:∀l,rd' i l->l.low B->rd i l\/wr i l) (yY:∀l,wr' i l->l.low B->wr i l)
  (ex:∀l j,j≠i->(wr i l->¬rd j l/\¬wr j l)/\(rd i l->¬wr j l)) (Is:∀l j,Sh l->¬rd j l/\¬wr j l) (abO:∀j l,rd j l\/wr j l->l.low B):
  TI (t++u) B' N rd' wr' Sh act ic where
 nr said:=by
  refine noRace_append (h.nr said) hu λidx a ha op ay b hb hc=> ?_;have bp:=hc;obtain⟨cS,_,GN,oY⟩:=hc;rcases hf op ay b hb with⟨h1,h2,h3⟩|⟨h1,h2,h3,h4⟩|⟨_,h2|⟨h2,h3⟩|h2⟩
  ·rw[h2]at oY;rcases oY with x|x|⟨_,_,x⟩
   ·exact(h.sp idx a ha (cS▸h1)).1 x i h3
   ·cases x
   ·cases x
  ·rw[h2]at oY;rcases oY with x|x|⟨_,x,_⟩
   ·exact(h.sp idx a ha (cS▸h1)).1 x i h4
   ·cases x
   ·rw[h3];exact(h.sp idx a ha (cS▸h1)).2 x
  ·exact h.kw i hi _ h2 idx a ha cS
  ·exact h.kr i hi _ h2 idx a ha cS (by rw[h3]at GN;simpa using GN)
  ·exact absurd (cS▸OV h.low ha) h2
 low op ay:=(Uw.1 ay).elim (λx=>Zq hB (h.low op x)) (hl op)
 gs op ay:=(Uw.1 ay).elim (h.gs op) (λx=>by rw[hu op x];exact hi)
 norel op ay:=(Uw.1 ay).elim (h.norel op) (hn op)
 kr j hj l t_:=by
  by_cases cx:j=i
  ·subst cx;intro idx a ha gN hw;rcases BH ha with gw|⟨_,op,ay,da,hx⟩
   ·have iA:l.low B:=gN▸OV h.low gw;rcases Ml l t_ iA with x|x
    ·exact(h.kr j hj l x idx a gw gN hw).app u
    ·exact(h.kw j hj l x idx a gw gN).app u
   ·have:=Zj da;rwa [hu op ay]at this
  ·have DF:=Mk j l cx t_;refine(h.kr j hj l DF).app λop ay b hb cR hw=> ?_;exfalso;rcases hf op ay b hb with⟨h1,_⟩|⟨h1,_⟩|⟨_,h2|⟨_,h3⟩|h2⟩
   ·exact(Is l j (cR▸h1)).1 DF
   ·exact(Is l j (cR▸h1)).1 DF
   ·exact((ex l j cx).1 (cR▸h2)).1 DF
   ·rw[h3]at hw;cases hw
   ·exact h2 (cR▸abO j l (.inl DF))
 kw j hj l oh:=by
  by_cases cx:j=i
  ·subst cx;intro idx a ha gN;rcases BH ha with gw|⟨_,op,ay,da,hx⟩
   ·exact(h.kw j hj l (yY l oh (gN▸OV h.low gw)) idx a gw gN).app u
   ·have:=Zj da;rwa [hu op ay]at this
  ·have og:=so j l cx oh;refine(h.kw j hj l og).app λop ay b hb cR=> ?_;exfalso;rcases hf op ay b hb with⟨h1,_⟩|⟨h1,_⟩|⟨_,h2|⟨h2,_⟩|h2⟩
   ·exact(Is l j (cR▸h1)).2 og
   ·exact(Is l j (cR▸h1)).2 og
   ·exact((ex l j cx).1 (cR▸h2)).2 og
   ·exact(ex l j cx).2 (cR▸h2) og
   ·exact h2 (cR▸abO j l (.inr og))
 sp idx a ha dl:=by
  rcases BH ha with gw|⟨_,op,ay,da,hx⟩
  ·exact⟨λhp j hj=>((h.sp idx a gw dl).1 hp j hj).app u,λhp=>((h.sp idx a gw dl).2 hp).app u⟩
  ·rcases hf op ay a hx with⟨_,h2,_⟩|⟨_,h2,h3,_⟩|⟨h1,_⟩
   ·exact⟨λhp=>absurd (h2.symm.trans hp) (by simp),λhp=>absurd (h2.symm.trans hp) (by simp)⟩
   ·refine⟨λhp=>absurd (h2.symm.trans hp) (by simp),λ_=> ?_⟩;have:=Zj da;rw[hu op ay,h3]at this;exact this
   ·exact absurd dl h1
theorem TI.weaken{t:Up}{B N B':Nat}{rd wr rd' wr':Nat->Loc->Prop}{Sh Pq:Loc->Prop}{act act':Nat->Prop}{ic kX:Nat}(h:TI t B N rd wr Sh act ic)(hB:B<=B')
  (Mk:∀i l,i<N->rd' i l->rd i l\/wr i l) (so:∀i l,i<N->wr' i l->wr i l)
  (qW:∀idx a,touchAt t idx=some a->Pq a.loc->(a.kind=.plain->∀i,act' i->Wq t i idx)/\(a.kind=.said->Wq t kX idx)):TI t B' N rd' wr' Pq act' kX:=
 ⟨h.nr,λop ay=>Zq hB (h.low op ay),h.gs,h.norel,λi hi l x=>(Mk i l hi x).elim (h.kr i hi l) (λy=>PermW.of (h.kw i hi l y)),λi hi l x=>h.kw i hi l (so i l hi x),qW⟩
theorem aoG{t u:Up}(h:∀said,¬Race said t)(hn:∀op∈u,op.act.touch?=none):∀said,¬Race said (t++u):=by
 intro said
 rintro⟨i,j,kI,⟨a,b,ha,hb,hc⟩,n1,n2⟩
 have old:∀{k:Nat}{x:YK},((t++u).act? k).bind (·.touch?)=some x->k<t.size/\(t.act? k).bind (·.touch?)=some x:=by
  intro k x hx;obtain⟨y,hy,MQ⟩:=U1 hx;rcases Xn hy with⟨hk,p_⟩|⟨_,hyu⟩
  ·exact⟨hk,by simp[Trace.act?,p_,MQ]⟩
  ·rw[hn y hyu]at MQ;cases MQ
 exact h said ⟨i,j,kI,⟨a,b,(old ha).2,(old hb).2,hc⟩,λe=>n1 (hb_app u e),λe=>n2 (hb_app u e)⟩
theorem BI{t u:Up}(hn:∀op∈u,op.act.touch?=none){idx:Nat}{a:YK}(h:touchAt (t++u) idx=some a):touchAt t idx=some a:=by
 rcases BH h with h|⟨_,op,ay,_,hx⟩
 ·exact h
 ·rw[hn op ay]at hx;cases hx
theorem TI.mute{t:Up}{B N N':Nat}{rd wr rd' wr':Nat->Loc->Prop}{Sh:Loc->Prop}{act act':Nat->Prop}{ic kX:Nat}(h:TI t B N rd wr Sh act ic){u:Up}(hn:∀op∈u,op.act.touch?=none)(hl:∀op∈u,op.act.low B)(hg:∀op∈u,op.g<N')(hN:N<=N')
  (sf:∀op∈u,∀a,op.act≠ .mark (.release a))
  (kr:∀i,i<N'->∀l,rd' i l->∀idx a,touchAt t idx=some a->a.loc=l->a.write=true->Wq (t++u) i idx) (kw:∀i,i<N'->∀l,wr' i l->∀idx a,touchAt t idx=some a->a.loc=l->Wq (t++u) i idx)
  (sp:∀idx a,touchAt t idx=some a->Sh a.loc->(a.kind=.plain->∀i,act' i->Wq (t++u) i idx)/\(a.kind=.said->Wq (t++u) kX idx)):TI (t++u) B N' rd' wr' Sh act' kX:=
 ⟨aoG h.nr hn,λop ay=>(Uw.1 ay).elim (h.low op) (hl op),λop ay=>(Uw.1 ay).elim (λx=>Te (h.gs op x) hN) (hg op),λop ay=>(Uw.1 ay).elim (h.norel op) (sf op),
  λi hi l x idx a ha=>kr i hi l x idx a (BI hn ha),λi hi l x idx a ha=>kw i hi l x idx a (BI hn ha),λidx a ha=>sp idx a (BI hn ha)⟩
theorem rQ{t u:Up}{k:Nat}{x:Wi}(h:u[k]?=some x):(t++u)[t.size+k]?=some x:=by
 rw[X9 (by omega)];simpa using h
theorem heard_new{t u:Up}{k g:Nat}{x:Wi}(h:u[k]?=some x)(hx:x.g=g)(hd:(t++u).deaf g (t.size+k)=0):(t++u).heard (t.size+k):=⟨g,by simp[WE,rQ h,hx],hd⟩
def still (m:MemAct):Prop:=m≠ .mark .disable/\m≠ .mark .enable
theorem JI{g d:Nat}{y:Wi}(h:still y.act):deafStep g d y=d:=by
 unfold deafStep;obtain⟨_,_,_,act⟩:=y;cases act with
 |mark m=>cases m<;>first|rfl|exact absurd rfl h.1|exact absurd rfl h.2
 |_=>rfl
theorem uU{t u:Up}{g:Nat}(hs:∀op∈u,still op.act):∀{k:Nat},k<=u.size->(t++u).deaf g (t.size+k)=U0 t g:=by
 intro k;induction k with
 |zero=>intro _;exact deaf_old (SP _)
 |succ k ih=>
  intro hk;have hlt:k<u.size:=by omega
  have hy:u[k]?=some u[k]:=SJ hlt;have e:=af_ (g:=g) (rQ (t:=t) hy);rw[show t.size+(k+1)=t.size+k+1 from rfl,e,ih (by omega),JI (hs _ (XX hlt))]
theorem Deaf_still{t u:Up}{g:Nat}(hs:∀op∈u,still op.act):U0 (t++u) g=U0 t g:=by
 have:=uU (t:=t) (g:=g) hs (SP u.size);unfold U0;rw[XF];exact this
theorem aom{t u:Up}{k c s:Nat}{x0 x1 x2 x3:Wi}(hu:u=#[x0,x1,x2,x3]) (h0:x0.g=k/\x0.act=.send c s) (h1:still x1.act) (h2:still x2.act) (h3:x3.g=0/\x3.act=.recvDone c s) (dk:U0 t k=0) (d0:U0 t 0=0) {idx:Nat} (h:Wq t k idx):Wq (t++u) 0 idx:=by
 have hs:∀op∈u,still op.act:=by
  subst hu;intro op ay;simp only[TO,SK,SZ,or_false]at ay;rcases ay with rfl|rfl|rfl|rfl
  ·rw[h0.2];exact⟨by simp,by simp⟩
  ·exact h1
  ·exact h2
  ·rw[h3.2];exact⟨by simp,by simp⟩
 have e0:u[0]?=some x0:=by subst hu;rfl
 have e3:u[3]?=some x3:=by subst hu;rfl
 have aY:u.size=4:=by subst hu;rfl
 have g0:=rQ (t:=t) e0;have g3:=rQ (t:=t) e3;have Di:(t++u).heard (t.size+0):=heard_new e0 h0.1 (by rw[uU hs (by omega)];exact dk);have hh3:(t++u).heard (t.size+3):=heard_new e3 h3.1 (by rw[uU hs (by omega)];exact d0);have hb:HappensBefore (t++u) idx (t.size+0):=h.hb_new (by omega) g0 h0.1;exact⟨_,x3,g3,h3.1,.inr (hb.trans (.single (.inr ⟨.handOver (c:=c) (k:=s) (by rw[aj' g0,h0.2]) (by rw[aj' g3,h3.2]),Di,hh3⟩)))⟩
theorem afD{t:Up}{a:Va}{r q i:Nat}{y:Wi}(hr:t.act? r=some (.mark (.releaseMerge a)))(hh:t.heard r)(hn:∀op∈t,∀a,op.act≠ .mark (.release a))(hy:y.g=q/\y.act=.mark (.acquire a))(hd:U0 t q=0)(hb:Before t i r):Wq (t++#[y]) q i:=by
 have e:(#[y]:Up)[0]?=some y:=rfl;have g:=rQ (t:=t) e;have t_:=We hr;have aP:∀op∈(#[y]:Up),still op.act:=by
  intro op ay;simp only[TO,SK,SZ,or_false]at ay;subst ay;rw[hy.2];exact⟨by simp,by simp⟩
 have LI:(t++#[y]).heard (t.size+0):=heard_new e hy.1 (by rw[uU aP (by simp)];exact hd);refine⟨_,y,g,hy.1,.inr ((hb.app #[y]).hb (.single (.inr ⟨.marked (a:=a) (by omega) (.inr (by rw[X8 t_];exact hr)) (by rw[aj' g,hy.2]) (λk iK cL e'=> ?_),(Wu t_).2 hh,LI⟩)))⟩;obtain⟨op,ho,hoa⟩:=Ts.1 e';rcases Xn ho with⟨_,bi⟩|⟨hk,_⟩
 ·exact hn op (XW bi) a hoa
 ·omega
theorem aho{t:Up}{c p q i:Nat}{y:Wi}(hp:t.act? p=some (.close c))(hh:t.heard p)(hy:y.g=q/\y.act=.recvClosed c)(hd:U0 t q=0)(hb:Before t i p):Wq (t++#[y]) q i:=by
 have e:(#[y]:Up)[0]?=some y:=rfl;have g:=rQ (t:=t) e;have dz:=We hp;have aP:∀op∈(#[y]:Up),still op.act:=by
  intro op ay;simp only[TO,SK,SZ,or_false]at ay;subst ay;rw[hy.2];exact⟨by simp,by simp⟩
 have LI:(t++#[y]).heard (t.size+0):=heard_new e hy.1 (by rw[uU aP (by simp)];exact hd);exact⟨_,y,g,hy.1,.inr ((hb.app #[y]).hb (.single (.inr ⟨.closed (c:=c) (by rw[X8 dz];exact hp) (by rw[aj' g,hy.2]),(Wu dz).2 hh,LI⟩)))⟩
def j4 (U V:View):Prop:=∀b,U.own b≠none->V.own b=none/\∀o,V.ab b o≠none->U.ab b o≠none
def gV (V:View):Loc->Prop
 |.cell a=>V.own a.block≠none\/V.ab a.block a.off≠none
 |.obj r=>V.own r≠none
 |_=>False
def j5 (V:View):Loc->Prop
 |.cell a=>V.own a.block≠none/\V.ab a.block a.off=none
 |.obj r=>V.own r≠none
 |_=>False
theorem j5.rd{V:View}:∀{l:Loc},j5 V l->gV V l
 |.cell _,h=> .inl h.1
 |.obj _,h=>h
theorem dh.others{V V' U:View}{w w':Tq}{es:Array Uu}(s:dh V w V' w' es)(hV:Sat V w)(h:Sat U w)(d:j4 V U):Sat U w':=by
 refine⟨λb o v e=> ?_,λb x e=> ?_⟩
 ·have hc:=h.ab b o v e;have hb:=h.D3 e;cases ho:V.own b with
  |none=>
   have:=s.frame b hb ho;simp only[UC,this]at hc⊢;exact hc
  |some x=>
   have hp:=(d b (by rw[ho];simp)).2 o (by rw[e];simp);cases hi:V.ab b o with
   |none=>exact absurd hi hp
   |some v'=>
    have e1:=hV.ab b o v' hi;rw[hc]at e1;cases e1;exact s.sat.ab b o v (s.ab b o v hi)
 ·have hb:=h.lt e;have ho:V.own b=none:=by
   cases ho:V.own b with
   |none=>rfl
   |some y=>rw[(d b (by rw[ho];simp)).1]at e;cases e
  rw[s.frame b hb ho];exact h.own b x e
theorem dh.wD{V V' U:View}{w w':Tq}{es:Array Uu}(s:dh V w V' w' es)(h:Sat U w)(d:j4 V U)(d':j4 U V):j4 V' U/\j4 U V':=by
 have key:∀b,V'.own b≠none->V.own b≠none\/w.heap.size<=b:=by
  intro b hb;by_cases hlt:b<w.heap.size
  ·exact .inl λe=>hb (s.own b hlt e)
  ·exact .inr (by omega)
 refine⟨λb hb=> ?_,λb hb=> ?_⟩
 ·rcases key b hb with x|x
  ·refine⟨(d b x).1,λo ho=> ?_⟩;have:=(d b x).2 o ho;cases e:V.ab b o with
   |none=>exact absurd e this
   |some v=>rw[s.ab b o v e];simp
  ·have:=h.fresh x;exact⟨this.1,λo ho=>absurd (this.2 o) ho⟩
 ·have hlt:b<w.heap.size:=by
   cases e:U.own b with
   |none=>exact absurd e hb
   |some x=>exact h.lt e
  refine⟨?_,λo ho=> ?_⟩
  ·exact s.own b hlt (d' b hb).1
  ·cases e:V'.ab b o with
   |none=>exact absurd e ho
   |some v=>
    rcases s.kY b o v e with x|x|x
    ·exact(d' b hb).2 o (by rw[x];simp)
    ·exact absurd (d' b hb).1 x
    ·omega
theorem d_.wD{V V' U:View}(g:d_ V V')(d:j4 V U)(d':j4 U V):j4 V' U/\j4 U V':=by
 refine⟨λb hb=> ?_,λb hb=>⟨g.own b (d' b hb).1,λo ho=> ?_⟩⟩
 ·have x:V.own b≠none:=λe=>hb (g.own b e);refine⟨(d b x).1,λo ho=> ?_⟩;cases e:V.ab b o with
  |none=>exact absurd e ((d b x).2 o ho)
  |some v=>rw[g.ab b o v e];simp
 ·cases e:V'.ab b o with
  |none=>exact absurd e ho
  |some v=>
   rcases g.kY b o v e with x|x
   ·exact(d' b hb).2 o (by rw[x];simp)
   ·exact absurd (d' b hb).1 x
theorem d_.rd{V V':View}(g:d_ V V'):∀{l:Loc},gV V' l->gV V l
 |.cell a,h=>by
  rcases h with h|h
  ·exact .inl λe=>h (g.own _ e)
  ·cases e:V'.ab a.block a.off with
   |none=>exact absurd e h
   |some v=>exact(g.kY _ _ _ e).elim (λx=> .inr (by rw[x];simp)) .inl
 |.obj _,h=>λe=>h (g.own _ e)
theorem d_.wr{V V':View}(g:d_ V V'):∀{l:Loc},j5 V' l->j5 V l
 |.cell a,h=>⟨λe=>h.1 (g.own _ e),by
  cases e:V.ab a.block a.off with
  |none=>rfl
  |some v=>exact absurd (g.ab _ _ _ e) (by rw[h.2];simp)⟩
 |.obj _,h=>λe=>h (g.own _ e)
theorem gV.low{V:View}{w:Tq}(h:Sat V w):∀{l:Loc},gV V l->l.low w.heap.size
 |.cell a,x=>by
  rcases x with x|x
  ·cases e:V.own a.block with
   |none=>exact absurd e x
   |some y=>exact h.lt e
  ·cases e:V.ab a.block a.off with
   |none=>exact absurd e x
   |some y=>exact h.D3 e
 |.obj r,x=>by
  cases e:V.own r with
  |none=>exact absurd e x
  |some y=>exact h.lt e
theorem dh.rd{V V':View}{w w':Tq}{es:Array Uu}(s:dh V w V' w' es):∀{l:Loc},gV V' l->l.low w.heap.size->gV V l
 |.cell a,h,hl=>by
  have eR:a.block<w.heap.size:=hl;rcases h with h|h
  ·exact .inl λe=>h (s.own _ eR e)
  ·cases e:V'.ab a.block a.off with
   |none=>exact absurd e h
   |some v=>
    rcases s.kY _ _ _ e with x|x|x
    ·exact .inr (by rw[x];simp)
    ·exact .inl x
    ·omega
 |.obj r,h,hl=>λe=>h (s.own _ hl e)
theorem dh.wr{V V':View}{w w':Tq}{es:Array Uu}(s:dh V w V' w' es):∀{l:Loc},j5 V' l->l.low w.heap.size->j5 V l
 |.cell a,h,hl=>⟨λe=>h.1 (s.own _ hl e),by
  cases e:V.ab a.block a.off with
  |none=>rfl
  |some v=>exact absurd (s.ab _ _ _ e) (by rw[h.2];simp)⟩
 |.obj r,h,hl=>λe=>h (s.own _ hl e)
theorem ahJ{U V:View}(d:j4 U V)(d':j4 V U)(l:Loc):(j5 U l->¬gV V l/\¬j5 V l)/\(gV U l->¬j5 V l):=by
 cases l with
 |cell a=>
  refine⟨λh=> ?_,λh=> ?_⟩
  ·have:=d _ h.1;refine⟨λx=> ?_,λx=>x.1 this.1⟩;rcases x with x|x
   ·exact x this.1
   ·exact this.2 _ x h.2
  ·intro x;have:=d' _ x.1;rcases h with h|h
   ·exact h this.1
   ·exact this.2 _ h x.2
 |obj r=>exact⟨λh=>⟨λx=>x (d r h).1,λx=>x (d r h).1⟩,λh x=>h (d' r x).1⟩
 |_=>exact⟨λh=>h.elim,λh=>h.elim⟩
def rG (c Wg:Nat):Loc->Prop
 |.cell a=>a.block=Wg
 |.obj r=>r=c
 |_=>False
structure Core (VV:Nat->View)(N:Nat)(w:Tq)(t:Up)(Sh:Loc->Prop)(act:Nat->Prop)(ic n0:Nat)(W0:Tq):Prop where
 sat:∀i,i<N->Sat (VV i) w
 dR:∀i j,i<N->j<N->i≠j->j4 (VV i) (VV j)
 ti:TI t w.heap.size N (λi l=>i<N/\gV (VV i) l/\¬Sh l) (λi l=>i<N/\j5 (VV i) l/\¬Sh l) Sh act ic
 tape:w.tape=W0.tape
 os:w.os=W0.os
 out:w.output=W0.output
 old:∀b,b<n0->w.heap[b]?=W0.heap[b]?
 jx:∀i,i<N->∀b,b<n0->(VV i).own b=none
 n0:n0<=w.heap.size
def upd {α:Type}(f:Nat->α)(i:Nat)(x:α):Nat->α:=λj=>if j=i then x else f j
theorem bA{α:Type}(f:Nat->α)(i:Nat)(x:α):upd f i x i=x:=by simp[upd]
theorem bf{α:Type}(f:Nat->α){i j:Nat}(x:α)(h:j≠i):upd f i x j=f j:=by simp[upd,h]
section
variable {VV:Nat->View}{N:Nat}{w w':Tq}{t:Up}{Sh:Loc->Prop}{act:Nat->Prop}{ic n0 i:Nat}{W0:Tq}
theorem Core.draw(h:Core VV N w t Sh act ic n0 W0)(d:Nat):Core VV N (w.at d) t Sh act ic n0 W0:=
 ⟨λi hi=>⟨(h.sat i hi).ab,(h.sat i hi).own⟩,h.dR,h.ti,h.tape,h.os,h.out,h.old,h.jx,h.n0⟩
theorem J7{V:View}{B:Nat}{e:Uu}(he:nw V B e){x:YK}(hx:(Tt e).touch?=some x):(j5 V x.loc\/(gV V x.loc/\x.write=false)\/¬x.loc.low B)/\
  (∀c,V.role.chan=some c->x.loc≠ .obj c)/\(∀Wg a,V.role.group=some Wg->x.loc=.cell a->a.block=Wg->x.kind≠ .plain):=by
 obtain⟨l,wr,s⟩:=e;cases l with
 |cell a=>
  simp only[asg,Wj,Tl]at hx;subst hx;cases wr with
  |false=>
   refine⟨?_,λc _=>by simp,λWg a' hr ha hb=> ?_⟩
   ·rcases he.1 with h|h|h
    ·exact .inr (.inr (by show ¬a.block<B;omega))
    ·exact .inr (.inl ⟨.inl h,rfl⟩)
    ·exact .inr (.inl ⟨.inr h,rfl⟩)
   ·cases ha;rcases he.2 with h|h
    ·subst h;simp
    ·subst hb;exact absurd hr h
  |true=>
   refine⟨?_,λc _=>by simp,λWg a' hr ha hb=> ?_⟩
   ·rcases he.1 with h|h
    ·exact .inr (.inr (by show ¬a.block<B;omega))
    ·exact .inl h
   ·cases ha;rcases he.2 with h|h
    ·subst h;simp
    ·subst hb;exact absurd hr h
 |obj r=>
  obtain⟨⟨rfl,h2⟩,h3⟩:=he;have e1:Tt ⟨.obj r,wr,false⟩=.access ⟨.obj r,wr,false⟩:=by cases wr<;>rfl
  rw[e1]at hx;simp only[Wj,Tl]at hx;subst hx;refine⟨?_,λc hc e=> ?_,λWg a _ ha=>by cases ha⟩
  ·rcases h2 with h|h
   ·exact .inr (.inr (by show ¬r<B;omega))
   ·exact .inl h
  ·cases e;exact h3 hc
 |mark m=>
  have e1:Tt ⟨.mark m,wr,s⟩=.mark m:=by cases wr<;>cases s<;>rfl
  rw[e1]at hx;cases m<;>simp only[Wj,Tl,reduceCtorEq]at hx
  all_goals
   subst hx;refine⟨?_,λc _=>by simp,λWg a' _ _ _=>by simp⟩;have kG:mZ V B _:=he;rcases kG with h|h
   ·exact .inr (.inr (by simp only[Loc.low];omega))
   ·exact .inl h
 |_=>exact he.elim
theorem Core.QZ(h:Core VV N w t Sh act ic n0 W0)(l:Loc){i j:Nat}(hi:i<N)(hj:j≠i):
  ((i<N/\j5 (VV i) l/\¬Sh l)->¬(j<N/\gV (VV j) l/\¬Sh l)/\¬(j<N/\j5 (VV j) l/\¬Sh l))/\((i<N/\gV (VV i) l/\¬Sh l)->¬(j<N/\j5 (VV j) l/\¬Sh l)):=by
 by_cases Dk:j<N
 ·have:=ahJ (h.dR i j hi Dk (Ne.symm hj)) (h.dR j i Dk hi hj) l;exact⟨λ⟨_,x,_⟩=>⟨λ⟨_,y,_⟩=>(this.1 x).1 y,λ⟨_,y,_⟩=>(this.1 x).2 y⟩,λ⟨_,x,_⟩ ⟨_,y,_⟩=>this.2 x y⟩
 ·exact⟨λ_=>⟨λ⟨y,_⟩=>Dk y,λ⟨y,_⟩=>Dk y⟩,λ_ ⟨y,_⟩=>Dk y⟩
theorem Core.step(h:Core VV N w t Sh act ic n0 W0)(hi:i<N){V':View}{es:Array Uu}(s:dh (VV i) w V' w' es)
  (dl:∀e∈es,∀x,(Tt e).touch?=some x->Sh x.loc->(x.kind=.atomic/\act i)\/(x.kind=.said/\i=ic/\act i)) (fn:TS) (pos:String):
  Core (upd VV i V') N w' (t++Tc i fn pos es) Sh act ic n0 W0 where
 sat j hj:=by
  by_cases cx:j=i
  ·subst cx;rw[bA];exact s.sat
  ·rw[bf _ _ cx];exact s.others (h.sat i hi) (h.sat j hj) (h.dR i j hi hj (Ne.symm cx))
 dR a b ha hb gM:=by
  by_cases nU:a=i
  ·subst nU;have wO:b≠a:=Ne.symm gM;rw[bA,bf _ _ wO];exact(s.wD (h.sat b hb) (h.dR a b ha hb gM) (h.dR b a hb ha wO)).1
  ·by_cases fu:b=i
   ·subst fu;rw[bA,bf _ _ nU];exact(s.wD (h.sat a ha) (h.dR b a hb ha (Ne.symm gM)) (h.dR a b ha hb gM)).2
   ·rw[bf _ _ nU,bf _ _ fu];exact h.dR a b ha hb gM
 ti:=by
  refine h.ti.app hi (λop ay=>by obtain⟨e,_,rfl⟩:=TQ ay;rfl) (λop ay x hx=> ?_) (λop ay=>by obtain⟨e,he,rfl⟩:=TQ ay;exact s.low e he) s.size (λop ay a=> ?_)
   (λj l hj ⟨x,y⟩=>by rw[bf _ _ hj]at y;exact⟨x,y⟩) (λj l hj ⟨x,y⟩=>by rw[bf _ _ hj]at y;exact⟨x,y⟩)
   (λl ⟨x,y,z⟩ hl=>by rw[bA]at y;exact .inl ⟨x,s.rd y hl,z⟩) (λl ⟨x,y,z⟩ hl=>by rw[bA]at y;exact⟨x,s.wr y hl,z⟩)
   (λl j hj=>h.QZ l hi hj) (λl j hs=>⟨λx=>x.2.2 hs,λx=>x.2.2 hs⟩) (λj l x=>x.elim (λy=>gV.low (h.sat j y.1) y.2.1) (λy=>gV.low (h.sat j y.1) y.2.1.rd))
  ·obtain⟨e,he,rfl⟩:=TQ ay;by_cases hs:Sh x.loc
   ·rcases dl e he x hx hs with⟨a,b⟩|⟨a,b,c⟩
    ·exact .inl ⟨hs,a,b⟩
    ·exact .inr (.inl ⟨hs,a,b,c⟩)
   ·refine .inr (.inr ⟨hs,?_⟩);rcases(J7 (s.ft e he) hx).1 with x'|⟨x',y⟩|x'
    ·exact .inl ⟨hi,x',hs⟩
    ·exact .inr (.inl ⟨⟨hi,x',hs⟩,y⟩)
    ·exact .inr (.inr x')
  ·obtain⟨e,he,rfl⟩:=TQ ay;intro e';have hk:=s.ft e he;obtain⟨l,wr,sy⟩:=e;cases l with
   |mark m=>
    have e1:Tt ⟨.mark m,wr,sy⟩=.mark m:=(by cases wr<;>cases sy<;>rfl);simp only[e1,am']at e';subst e';exact hk
   |cell a'=>simp[asg]at e'
   |obj r=>cases wr<;>cases sy<;>simp[Tt]at e'
   |_=>exact hk
 tape:=s.tape.trans h.tape
 os:=s.os.trans h.os
 out:=s.output.trans h.out
 old b hb:=(s.frame b (Te hb h.n0) (h.jx i hi b hb)).trans (h.old b hb)
 jx j hj b hb:=by
  by_cases cx:j=i
  ·subst cx;rw[bA];exact s.own b (Te hb h.n0) (h.jx j hj b hb)
  ·rw[bf _ _ cx];exact h.jx j hj b hb
 n0:=TV h.n0 s.size
theorem Core.ghost(h:Core VV N w t Sh act ic n0 W0)(hi:i<N){V':View}(g:d_ (VV i) V'):Core (upd VV i V') N w t Sh act ic n0 W0 where
 sat j hj:=by
  by_cases cx:j=i
  ·subst cx;rw[bA];exact g.sat _ (h.sat j hj)
  ·rw[bf _ _ cx];exact h.sat j hj
 dR a b ha hb gM:=by
  by_cases nU:a=i
  ·subst nU;have wO:b≠a:=Ne.symm gM;rw[bA,bf _ _ wO];exact(g.wD (h.dR a b ha hb gM) (h.dR b a hb ha wO)).1
  ·by_cases fu:b=i
   ·subst fu;rw[bA,bf _ _ nU];exact(g.wD (h.dR b a hb ha (Ne.symm gM)) (h.dR a b ha hb gM)).2
   ·rw[bf _ _ nU,bf _ _ fu];exact h.dR a b ha hb gM
 ti:=h.ti.weaken (SP _) (λj l _ ⟨x,y,z⟩=>by
   by_cases cx:j=i
   ·subst cx;rw[bA]at y;exact .inl ⟨x,g.rd y,z⟩
   ·rw[bf _ _ cx]at y;exact .inl ⟨x,y,z⟩) (λj l _ ⟨x,y,z⟩=>by
   by_cases cx:j=i
   ·subst cx;rw[bA]at y;exact⟨x,g.wr y,z⟩
   ·rw[bf _ _ cx]at y;exact⟨x,y,z⟩) h.ti.sp
 tape:=h.tape
 os:=h.os
 out:=h.out
 old:=h.old
 jx j hj b hb:=by
  by_cases cx:j=i
  ·subst cx;rw[bA];exact g.own b (h.jx j hj b hb)
  ·rw[bf _ _ cx];exact h.jx j hj b hb
 n0:=h.n0
def mY (V' V:View):Prop:=(∀b,V'.own b=none\/V'.own b=V.own b)/\(∀b o,V'.ab b o=none\/V'.ab b o=V.ab b o)/\(∀b,V'.own b≠none->∀o,V'.ab b o=V.ab b o)
theorem mY.sat{V V':View}(l:mY V' V){w:Tq}(h:Sat V w):Sat V' w:=
 ⟨λb o v e=>h.ab b o v (by rcases l.2.1 b o with x|x<;>rw[x]at e;cases e;exact e),λb x e=>h.own b x (by rcases l.1 b with y|y<;>rw[y]at e;cases e;exact e)⟩
theorem mY.rd{V V':View}(k:mY V' V):∀{l:Loc},gV V' l->gV V l
 |.cell a,h=>h.imp (λx y=>by rcases k.1 a.block with z|z;exact x z;exact x (z.trans y)) (λx y=>by rcases k.2.1 a.block a.off with z|z;exact x z;exact x (z.trans y))
 |.obj r,h=>λy=>by rcases k.1 r with z|z;exact h z;exact h (z.trans y)
theorem mY.wr{V V':View}(k:mY V' V):∀{l:Loc},j5 V' l->j5 V l
 |.cell a,h=>⟨λy=>by rcases k.1 a.block with z|z;exact h.1 z;exact h.1 (z.trans y),by rw[<- k.2.2 _ h.1];exact h.2⟩
 |.obj r,h=>λy=>by rcases k.1 r with z|z;exact h z;exact h (z.trans y)
theorem mY.wD{V V' U:View}(k:mY V' V)(d:j4 V U)(d':j4 U V):j4 V' U/\j4 U V':=by
 refine⟨λb hb=> ?_,λb hb=>⟨?_,λo ho=> ?_⟩⟩
 ·have x:V.own b≠none:=λy=>by rcases k.1 b with z|z;exact hb z;exact hb (z.trans y)
  exact⟨(d b x).1,λo ho=>by rw[k.2.2 b hb];exact(d b x).2 o ho⟩
 ·rcases k.1 b with z|z;exact z;exact z.trans (d' b hb).1
 ·exact(d' b hb).2 o λy=>by rcases k.2.1 b o with z|z;exact ho z;exact ho (z.trans y)
theorem Core.less(h:Core VV N w t Sh act ic n0 W0)(hi:i<N){V':View}(k:mY V' (VV i)):Core (upd VV i V') N w t Sh act ic n0 W0 where
 sat j hj:=by
  by_cases cx:j=i
  ·subst cx;rw[bA];exact k.sat (h.sat j hj)
  ·rw[bf _ _ cx];exact h.sat j hj
 dR a b ha hb gM:=by
  by_cases nU:a=i
  ·subst nU;have wO:b≠a:=Ne.symm gM;rw[bA,bf _ _ wO];exact(k.wD (h.dR a b ha hb gM) (h.dR b a hb ha wO)).1
  ·by_cases fu:b=i
   ·subst fu;rw[bA,bf _ _ nU];exact(k.wD (h.dR b a hb ha (Ne.symm gM)) (h.dR a b ha hb gM)).2
   ·rw[bf _ _ nU,bf _ _ fu];exact h.dR a b ha hb gM
 ti:=h.ti.weaken (SP _) (λj l _ ⟨x,y,z⟩=>by
   by_cases cx:j=i
   ·subst cx;rw[bA]at y;exact .inl ⟨x,k.rd y,z⟩
   ·rw[bf _ _ cx]at y;exact .inl ⟨x,y,z⟩) (λj l _ ⟨x,y,z⟩=>by
   by_cases cx:j=i
   ·subst cx;rw[bA]at y;exact⟨x,k.wr y,z⟩
   ·rw[bf _ _ cx]at y;exact⟨x,y,z⟩) h.ti.sp
 tape:=h.tape
 os:=h.os
 out:=h.out
 old:=h.old
 jx j hj b hb:=by
  by_cases cx:j=i
  ·subst cx;rw[bA];rcases k.1 b with z|z;exact z;exact z.trans (h.jx j hj b hb)
  ·rw[bf _ _ cx];exact h.jx j hj b hb
 n0:=h.n0
theorem Core.uw(h:Core VV N w t Sh act ic n0 W0)(hi:i<N){es:Array Uu}(ce:∀e∈es,∀x,(Tt e).touch?=some x->Fit w.heap.size (λi l=>i<N/\gV (VV i) l/\¬Sh l) (λi l=>i<N/\j5 (VV i) l/\¬Sh l) Sh act ic i x)
  (iA:∀e∈es,(Tt e).low w.heap.size) (sf:∀e∈es,∀a,Tt e≠ .mark (.release a)) (SB:Nat->Prop) (pZ:∀b,SB b->n0<=b/\∀j,j<N->(VV j).own b=none/\∀o,(VV j).ab b o=none)
  (aY:w'.heap.size=w.heap.size) (g_:∀b,¬SB b->w'.heap[b]?=w.heap[b]?) (ht:w'.tape=w.tape) (ho:w'.os=w.os) (hu:w'.output=w.output) (fn:TS) (pos:String):
  Core VV N w' (t++Tc i fn pos es) Sh act ic n0 W0 where
 sat j hj:=by
  have hs:=h.sat j hj;refine⟨λb o v e=> ?_,λb x e=> ?_⟩
  ·have hb:¬SB b:=λx=>(by rw[((pZ b x).2 j hj).2 o]at e;cases e);have:=hs.ab b o v e;simp only[UC,g_ b hb];exact this
  ·have hb:¬SB b:=λy=>(by rw[((pZ b y).2 j hj).1]at e;cases e);rw[g_ b hb];exact hs.own b x e
 dR:=h.dR
 ti:=by
  rw[aY];refine h.ti.app hi (λop ay=>by obtain⟨e,_,rfl⟩:=TQ ay;rfl) (λop ay x hx=>by obtain⟨e,he,rfl⟩:=TQ ay;exact ce e he x hx) (λop ay=>by obtain⟨e,he,rfl⟩:=TQ ay;exact iA e he) (SP _) (λop ay a=>by obtain⟨e,he,rfl⟩:=TQ ay;exact sf e he a)
   (λj l _ x=>x) (λj l _ x=>x) (λl x _=> .inl x) (λl x _=>x) (λl j hj=>h.QZ l hi hj) (λl j hs=>⟨λx=>x.2.2 hs,λx=>x.2.2 hs⟩) (λj l x=>x.elim (λy=>gV.low (h.sat j y.1) y.2.1) (λy=>gV.low (h.sat j y.1) y.2.1.rd))
 tape:=ht.trans h.tape
 os:=ho.trans h.os
 out:=hu.trans h.out
 old b hb:=(g_ b (λx=>by have:=(pZ b x).1;omega)).trans (h.old b hb)
 jx:=h.jx
 n0:=by rw[aY];exact h.n0
theorem Core.quiet(h:Core VV N w t Sh act ic n0 W0)(hi:i<N){es:Array Uu}(AJ:∀e∈es,(Tt e).touch?=none/\(Tt e).low w.heap.size/\∀a,Tt e≠ .mark (.release a))(fn:TS)(pos:String):
  Core VV N w (t++Tc i fn pos es) Sh act ic n0 W0:=
 h.uw hi (λe he x hx=>by rw[(AJ e he).1]at hx;cases hx) (λe he=>(AJ e he).2.1) (λe he=>(AJ e he).2.2) (λ_=>False) (λb x=>x.elim) rfl (λ_ _=>rfl) rfl rfl rfl fn pos
theorem Core.role(h:Core VV N w t Sh act ic n0 W0)(hi:i<N){V':View}(h1:V'.ab=(VV i).ab)(h2:V'.own=(VV i).own):Core (upd VV i V') N w t Sh act ic n0 W0:=
 h.less hi ⟨λb=> .inr (by rw[h2]),λb o=> .inr (by rw[h1]),λb _ o=>by rw[h1]⟩
end
inductive GS where
 |gone (q:Nat)
 |work (j:Nat) (h:Ht) (V:View)
 |ox (j:Nat) (h:Ht) (V V':View) (g0:SG) (v z:SQ)
 |add (n:Nat)
 |load (n:Nat)
 |store (n:Nat)
 |mS (n:Nat)
 |head (k n:Nat)
 |mA (v n:Nat)
 |said (n:Nat)
 |iy (n:Nat)
 |last (n:Nat)
 |acq (n:Nat)
 |look (n:Nat)
 |close (n:Nat)
def noView:View:={ab:=λ_ _=>none,own:=λ_=>none,deaf:=0,role:=.plain}
def GS.view (Im:cE):GS->View
 |.work _ _ V=>V
 |.ox _ _ V _ _ _ _=>V
 |.head .. |.mA .. |.said _|.iy _|.last _|.acq _|.look _=>{noView with ab:=Im}
 |_=>noView
def GS.cnt:GS->Nat
 |.work .. |.ox .. |.add _=>1
 |_=>0
def GS.late:GS->Nat
 |.load _|.store _|.mS _=>1
 |_=>0
def GS.idx:GS->Option Nat
 |.work j _ _=>some j
 |.ox j _ _ _ _ _ _=>some j
 |_=>none
def GS.shape:GS->GS
 |.gone _=> .gone 0
 |.work j _ _=> .work j .z noView
 |.ox j _ _ _ _ _ _=> .work j .z noView
 |.add _=> .add 0
 |.load _=> .load 0
 |.store _=> .store 0
 |.mS _=> .mS 0
 |.head k _=> .head k 0
 |.mA v _=> .mA v 0
 |.said _=> .said 0
 |.iy _=> .iy 0
 |.last _=> .last 0
 |.acq _=> .acq 0
 |.look _=> .look 0
 |.close _=> .close 0
theorem GS.nM:∀K:GS,K.shape.cnt=K.cnt:=by intro K;cases K<;>rfl
theorem GS.mO:∀K:GS,K.shape.late=K.late:=by intro K;cases K<;>rfl
theorem GS.Hr:∀K:GS,K.shape.idx=K.idx:=by intro K;cases K<;>rfl
def GS.nL:GS->Bool
 |.head .. |.mA .. |.said _|.iy _|.last _|.acq _|.look _|.close _=>true
 |_=>false
theorem GS.Qj:∀K:GS,K.shape.nL=K.nL:=by intro K;cases K<;>rfl
def GS.dc:GS->zX
 |.gone q=>⟨0,.z,q⟩
 |.work _ h V=>⟨11+2* (match V.role with|.work _ _ S=>S.length|_=>0),h,0⟩
 |.ox _ h V _ _ _ _=>⟨10+2* (match V.role with|.work _ _ S=>S.length|_=>0),h,0⟩
 |.add n=>⟨8,.z,n⟩
 |.load n=>⟨7,.z,n⟩
 |.store n=>⟨6,.z,n⟩
 |.mS n=>⟨5,.z,n⟩
 |.head k n=>⟨100+3* k,.z,n⟩
 |.mA v n=>⟨102+3* v,.z,n⟩
 |.said n=>⟨60,.z,n⟩
 |.iy n=>⟨50,.z,n⟩
 |.last n=>⟨40,.z,n⟩
 |.acq n=>⟨30,.z,n⟩
 |.look n=>⟨20,.z,n⟩
 |.close n=>⟨15,.z,n⟩
section
variable (P:SI)(c Wg:Nat)(Im:cE)(Ss:List (List Spec))
def Fa (v d:Nat)(g:SG):Prop:=d=1/\g.status=.running/\
 (∃g',(∀w,WgAt P Wg w ((v:Int)* KK) 0->stepG P false g w=.go g' (w.setCell (ej Wg) (.int .u64 ((v:Int)* KK+1))) #[ji (ej Wg),ly (ej Wg)])/\∃n,iu P Wg (Fb P Im c Wg) n 1 g')/\
 (∀u:Nat,u<v->∃g',(∀w,WgAt P Wg w ((u:Int)* KK) 0->stepG P false g w=.go g' w #[ji (ej Wg)])/\∃n,cV P (eM P Im c Wg v) n 1 g')
theorem eM.succ{k d:Nat}{g:SG}(h:eM P Im c Wg (k+1) d g):d=1/\g.status=.running/\∀v:Nat,v<=k->v<=4->∃g',(∀w,WgAt P Wg w ((v:Int)* KK) 0->stepG P false g w=.go g' w #[ji (ej Wg)])/\
  (v=0->∃n,iu P Wg (uE P Im c Wg) n 1 g')/\(v≠0->∃n,cV P (Fa P c Wg Im v) n 1 g'):=by
 rw[eM]at h;exact h
theorem eM.zero{d:Nat}{g:SG}(h:eM P Im c Wg 0 d g):False:=by
 rw[eM]at h;exact h
def GS.is:GS->Nat->SG->Prop
 |.gone q,d,g=>Y_ P q d g
 |.work j h V,d,g=>d=V.deaf/\lU P h V g/\∃S,Ss[j]?=some S/\V.role=.work c Wg S
 |.ox j h V V' g0 v z,d,g=>d=0/\V.deaf=0/\g=parked g0 #[scase c v z] .send/\lU P h V' (Ua g0 undef)/\∃sp S,∃B:Nat->Bool,Ss[j]?=some (sp::S)/\V.role=.work c Wg (sp::S)/\
   sp v V.ab (λb=>if B b then V.own b else none)/\V'={V with own:=λb=>if B b then none else V.own b,role:=.work c Wg S}
 |.add n,d,g=>cV P (BV P Wg) n d g
 |.load n,d,g=>cV P (Fe P Wg) n d g
 |.store n,d,g=>cV P (Fg P Wg) n d g
 |.mS n,d,g=>cV P (Ff P Wg) n d g
 |.head k n,d,g=>cV P (eM P Im c Wg k) n d g
 |.mA v n,d,g=>cV P (Fa P c Wg Im v) n d g
 |.said n,d,g=>iu P Wg (Fb P Im c Wg) n d g
 |.iy n,d,g=>cV P (Fc P Im c Wg) n d g\/(n=0/\∃g1,g={g1 with status:=.blocked}/\Fc P Im c Wg d g1)
 |.last n,d,g=>cV P (IY P Im c Wg) n d g
 |.acq n,d,g=>iu P Wg (uE P Im c Wg) n d g
 |.look n,d,g=>cV P (IZ P Im c) n d g
 |.close n,d,g=>cV P (IX P c) n d g
end
theorem cV.running{P:SI}{Stop:Nat->SG->Prop}(hs:∀d g,Stop d g->g.status=.running):∀{n d:Nat}{g:SG},cV P Stop n d g->g.status=.running
 |0,_,_,h=>hs _ _ h
 |_+1,_,_,h=>h.elim (hs _ _) (λx=>x.1)
theorem iu.running{P:SI}{Wg:Nat}{Stop:Nat->SG->Prop}(hs:∀d g,Stop d g->g.status=.running):∀{n d:Nat}{g:SG},iu P Wg Stop n d g->g.status=.running
 |0,_,_,h=>hs _ _ h
 |_+1,_,_,h=>h.elim (hs _ _) (λx=>x.1)
theorem aap{P:SI}{Im:cE}{c Wg:Nat}:∀{k d:Nat}{g:SG},eM P Im c Wg k d g->g.status=.running
 |0,_,_,h=>(eM.zero P c Wg Im h).elim
 |_+1,_,_,h=>(eM.succ P c Wg Im h).2.1
theorem GS.runs{P:SI}{c Wg:Nat}{Im:cE}{Ss:List (List Spec)}{K:GS}{d:Nat}{g:SG}(h:K.is P c Wg Im Ss d g):
  g.status=.running\/g.status=.finished/\(∃q,K=.gone q)\/(∃j h V V' g0 v z,K=.ox j h V V' g0 v z)\/((∃n,K=.iy n)/\g.status=.blocked/\g.offers=none):=by
 cases K with
 |gone q=>exact(ZO h).elim .inl (λx=> .inr (.inl ⟨x,q,rfl⟩))
 |work j h' V=>exact .inl h.2.1.running
 |ox j h' V V' g0 v z=>exact .inr (.inr (.inl ⟨j,h',V,V',g0,v,z,rfl⟩))
 |add n=>exact .inl (cV.running (λd g x=>x.2.1) h)
 |load n=>exact .inl (cV.running (λd g x=>x.2.1) h)
 |store n=>exact .inl (cV.running (λd g x=>x.2.1) h)
 |mS n=>exact .inl (cV.running (λd g x=>x.2.1) h)
 |head k n=>exact .inl (cV.running (λd g x=>aap x) h)
 |mA v n=>exact .inl (cV.running (λd g x=>x.2.1) h)
 |said n=>exact .inl (iu.running (λd g x=>x.2.1) h)
 |iy n=>
  rcases h with h|⟨_,g1,rfl,h⟩
  ·exact .inl (cV.running (λd g x=>x.2.1) h)
  ·exact .inr (.inr (.inr ⟨⟨n,rfl⟩,rfl,h.2.2.1⟩))
 |last n=>exact .inl (cV.running (λd g x=>x.2.1) h)
 |acq n=>exact .inl (iu.running (λd g x=>x.2.1) h)
 |look n=>exact .inl (cV.running (λd g x=>x.2.1) h)
 |close n=>exact .inl (cV.running (λd g x=>x.2.1) h)
structure Rel (Wg:Nat)(t:Up)(i r:Nat):Prop where
 act:t.act? r=some (.mark (.releaseMerge (ej Wg)))
 g:t.g? r=some i
 heard:t.heard r
theorem Rel.app{Wg:Nat}{t u:Up}{i r:Nat}(h:Rel Wg t i r):Rel Wg (t++u) i r:=
 have hr:=We h.act
 ⟨by rw[X8 hr];exact h.act,by rw[g?_old hr];exact h.g,(Wu hr).2 h.heard⟩
inductive eB where
 |early
 |got
 |shut (p:Nat)
 deriving DecidableEq
def xG (Wg:Nat)(t:Up)(K:Nat->GS)(ic:Nat):eB->Nat->Prop
 |.early,idx=>∃i,t.g? idx=some i/\0<i/\(((K i).idx.isSome=true)\/(i=ic)\/∃r,Rel Wg t i r/\idx<=r)
 |.got,idx=>Wq t ic idx
 |.shut p,idx=>Before t idx p
def Rest (Wg:Nat)(t:Up)(K:Nat->GS)(ic:Nat)(st:Option eB):Prop:=
 ∀idx a,touchAt t idx=some a->a.loc.isMemory=true->Wq t 0 idx\/(a.kind=.atomic/\¬t.heard idx)\/∃s,st=some s/\xG Wg t K ic s idx
def Mode (P:SI)(c Wg N:Nat)(w:Tq)(gs:Array SG)(t:Up)(K:Nat->GS)(ic:Nat)(s:eB):Prop:=
 let cn:Nat:=sumTo N λi=>(K i).cnt;let la:Nat:=sumTo N λi=>(K i).late;let opn:=∃n,w.heap[c]?=some (.chan 0 #[] false n n false)
 (opn/\s=.early/\la=0/\cn<=4/\WgAt P Wg w ((cn:Int)* KK) 0/\((∃k,(K ic).shape=.head k 0/\cn<k)\/(∃v,(K ic).shape=.mA v 0/\cn<=v/\0<v)))\/
 (opn/\s=.early/\la=0/\1<=cn/\cn<=4/\WgAt P Wg w ((cn:Int)* KK+1) 0/\((K ic).shape=.said 0\/(K ic).shape=.iy 0))\/
 (opn/\s=.early/\la=1/\cn=0/\((K ic).shape=.said 0\/(K ic).shape=.iy 0)/\(∀i,i<N->((K i).shape=.load 0\/(K i).shape=.store 0)->WgAt P Wg w 1 0)/\(∀i,i<N->(K i).shape=.mS 0->WgAt P Wg w 0 0))\/
 (opn/\s=.early/\la=0/\cn=0/\WgAt P Wg w 0 1/\(∀g,gs[ic]?=some g->g.status=.running)/\((K ic).shape=.said 0\/(K ic).shape=.iy 0))\/
 (opn/\s=.early/\la=0/\cn=0/\WgAt P Wg w 0 0/\((K ic).shape=.last 0\/(K ic).shape=.acq 0))\/
 (opn/\s=.got/\la=0/\cn=0/\((K ic).shape=.look 0\/(K ic).shape=.close 0))\/
 ((∃p n,s=.shut p/\t.act? p=some (.close c)/\t.heard p/\w.heap[c]?=some (.chan 0 #[] true n n false))/\la=0/\cn=0/\(K ic).shape=.gone 0)
def kP (gs:Array SG)(g:SG):Prop:=∃g0,gs[0]?=some g0/\g0.status=.running/\g0.frame=g.frame/\g0.callers=g.callers/\g0.dying=g.dying
def oC (gs:Array SG)(g:SG)(c:Nat):Prop:=∃g0 z,gs[0]?=some (parked g0 #[rcase c z] (.recv true))/\g0.frame=g.frame/\g0.callers=g.callers/\g0.dying=g.dying
structure Phase where
 c:Nat
 Wg:Nat
 Ss:List (List Spec)
 recv:Bool
def bH (V:View)(Im:cE)(K:Nat->GS):Nat->View:=λi=>if i=0 then V else(K i).view Im
structure Inv (P:SI)(n0:Nat)(W0:Tq)(V:View)(gs:Array SG)(w:Tq)(t:Up)(K:Nat->GS)(Im:cE)(ic:Nat)(ph:Option Phase)(st:Option eB):Prop where
 pos:0<gs.size
 k0:K 0=.gone 0
 d0:U0 t 0=V.deaf
 «is» : ∀ i g, 0 < i -> gs[i]? = some g -> match ph with
  |some p=>(K i).is P p.c p.Wg Im p.Ss (U0 t i) g
  |none=>∃q,K i=.gone q/\Y_ P q (U0 t i) g
 core:Core (bH V Im K) gs.size w t (match ph with|some p=>rG p.c p.Wg|none=>λ_=>False)
  (λi=>match ph with|some p=>if p.recv then 0<i/\i<gs.size/\((K i).idx.isSome=true\/i=ic\/(K i).cnt=1\/(K i).late=1)else i=0\/(i<gs.size/\(K i).idx.isSome=true)|none=>False) ic n0 W0
 rest:Rest (match ph with|some p=>p.Wg|none=>0) t K ic st
 phase:match ph with
  |none=>st=none
  |some p=>n0<=p.c/\n0<=p.Wg/\p.c≠p.Wg/\p.c<w.heap.size/\p.Wg<w.heap.size/\p.Ss.length<=4/\
   (∀i,0<i->((K i).view Im).own p.c=none/\(∀o,((K i).view Im).ab p.c o=none)/\((K i).view Im).own p.Wg=none/\(∀o,((K i).view Im).ab p.Wg o=none)/\((K i).nL=true->i=ic))/\
   (∀i i' j,0<i->i<gs.size->0<i'->i'<gs.size->(K i).idx=some j->(K i').idx=some j->i=i')/\
   (∀j S,p.Ss[j]?=some S->S≠[]->∃i,0<i/\i<gs.size/\(K i).idx=some j)/\
   (if p.recv then(V.own p.c=none/\(∀o,V.ab p.c o=none)/\V.own p.Wg=none/\(∀o,V.ab p.Wg o=none))/\0<ic/\ic<gs.size/\(∃s,st=some s/\Mode P p.c p.Wg gs.size w gs t K ic s)
    else V.own p.c=some (.chan 0 #[] false 0 0 false)/\ic=0/\st=some .early/\(∀i,0<i->i<gs.size->(K i).idx.isSome=true\/∃q,K i=.gone q)/\(∀S∈p.Ss,S≠[])/\(sumTo gs.size λi=>(K i).cnt)=p.Ss.length)
theorem BD(K:Nat->GS)(k:GS)(φ:GS->Nat){i N:Nat}(hi:i<N):sumTo N (λa=>φ (upd K i k a))+φ (K i)=sumTo N (λa=>φ (K a))+φ k:=sumTo_upd K k φ hi
theorem lQ(K:Nat->GS)(k:GS)(φ:GS->Nat){i N:Nat}(h:φ k=φ (K i)):sumTo N (λa=>φ (upd K i k a))=sumTo N (λa=>φ (K a)):=
 Vt λa _=>by by_cases ha:a=i;subst ha;rw[bA,h];rw[bf _ _ ha]
theorem Core.Ck{VV:Nat->View}{N:Nat}{w:Tq}{t:Up}{Sh:Loc->Prop}{act act':Nat->Prop}{ic n0:Nat}{W0:Tq}(h:Core VV N w t Sh act ic n0 W0)(ha:∀i,act' i->act i):Core VV N w t Sh act' ic n0 W0:=
 ⟨h.sat,h.dR,h.ti.weaken (SP _) (λ_ _ _ x=> .inl x) (λ_ _ _ x=>x) (λidx a x y=>⟨λhp i hi=>(h.ti.sp idx a x y).1 hp i (ha i hi),(h.ti.sp idx a x y).2⟩),h.tape,h.os,h.out,h.old,h.jx,h.n0⟩
theorem Core.congr{VV Fy:Nat->View}{N:Nat}{w:Tq}{t:Up}{Sh:Loc->Prop}{act:Nat->Prop}{ic n0:Nat}{W0:Tq}(h:Core VV N w t Sh act ic n0 W0)(e:∀i,i<N->Fy i=VV i):Core Fy N w t Sh act ic n0 W0:=
 ⟨λi hi=>by rw[e i hi];exact h.sat i hi,λi j hi hj kI=>by rw[e i hi,e j hj];exact h.dR i j hi hj kI,
  h.ti.weaken (SP _) (λi l hi ⟨x,y,z⟩=> .inl ⟨x,by rw[<- e i hi];exact y,z⟩) (λi l hi ⟨x,y,z⟩=>⟨x,by rw[<- e i hi];exact y,z⟩) h.ti.sp,h.tape,h.os,h.out,h.old,λi hi b hb=>by rw[e i hi];exact h.jx i hi b hb,h.n0⟩
theorem OY(V:View)(Im:cE)(K:Nat->GS){i:Nat}(hi:0<i)(k:GS):bH V Im (upd K i k)=upd (bH V Im K) i (k.view Im):=by
 funext j;by_cases hj:j=i
 ·subst hj;rw[bA];simp[bH,bA];omega
 ·rw[bf _ _ hj];simp[bH,bf _ _ hj]
theorem abl{P:SI}{c Wg:Nat}{Im:cE}{Ss:List (List Spec)}{k:GS}{d:Nat}{x g g':SG}{w':Tq}(ho:(∃n,w'.heap[c]?=some (.chan 0 #[] false n n false))\/k.idx=none) (h:k.is P c Wg Im Ss d x):
  k.is P c Wg Im Ss d (woken P g g' w' x):=by
 rcases GS.runs h with hr|⟨hf,q,rfl⟩|⟨j,h',V,V',g0,v,z,rfl⟩|⟨⟨n,rfl⟩,hb,hof⟩
 ·rw[Ym hr];exact h
 ·rw[woken_quitsD h];exact h
 ·rcases ho with⟨n,ho⟩|ho
  ·obtain⟨h1,h2,rfl,h4⟩:=h;rw[woken_send_open _ _ ho];exact⟨h1,h2,rfl,h4⟩
  ·cases ho
 ·rcases h with h|⟨hn,g1,rfl,h⟩
  ·rw[cV.running (λd g x=>x.2.1) h]at hb;cases hb
  ·unfold woken;split
   ·subst hn;refine .inl ?_;have e:({g1 with status:=avq}:SG).again w'=g1:=by
     obtain⟨f,cs,s,dy,o⟩:=g1;have h2:=h.2.1;have h3:=h.2.2.1;simp only at h2 h3;subst h2 h3;rfl
    rw[e];exact h
   ·exact .inr ⟨hn,g1,rfl,h⟩
theorem ND{P:SI}{gs:Array SG}{g:SG}{w':Tq}{i:Nat}{gi bE:SG}(hi:0<i)(h:kP gs g):kP ((gs.map (woken P gi bE w')).setIfInBounds i bE) g:=by
 obtain⟨g0,h0,h1,h2⟩:=h;exact⟨g0,by rw[SW (by omega),WI,h0];simp[Ym h1],h1,h2⟩
theorem NW{P:SI}{gs:Array SG}{g:SG}{w':Tq}{i c:Nat}{gi bE:SG}(hi:0<i)(h:oC gs g c)(ho:∃n,w'.heap[c]?=some (.chan 0 #[] false n n false)):oC ((gs.map (woken P gi bE w')).setIfInBounds i bE) g c:=by
 obtain⟨g0,z,h0,h2⟩:=h;obtain⟨n,ho⟩:=ho;exact⟨g0,z,by rw[SW (by omega),WI,h0];simp[woken_recv_open _ _ ho],h2⟩
theorem aph{P:SI}{gs:Array SG}{g:SG}{w':Tq}{i c:Nat}{gi bE:SG}(hi:0<i)(h:oC gs g c)(hw:mayWake P gi=true)(hs:bE.status=.running\/bE.status=.finished)(ho:∃n,w'.heap[c]?=some (.chan 0 #[] true n n false)):
  kP ((gs.map (woken P gi bE w')).setIfInBounds i bE) g:=by
 obtain⟨g0,z,h0,h2⟩:=h;obtain⟨n,ho⟩:=ho;refine⟨{parked g0 #[rcase c z] (.recv true)with status:=.running},?_,rfl,h2⟩;rw[SW (by omega),WI,h0];have:woken P gi bE w' (parked g0 #[rcase c z] (.recv true))={parked g0 #[rcase c z] (.recv true)with status:=.running}:=by
  unfold woken;have hc:(mayWake P gi&&bE.status != .blocked&&bE.status != .waiting)=true:=by rcases hs with hs|hs<;>simp[hw,hs]
  rw[if_pos hc,again_recv_closed ho]
 simp[this]
def zV (w:Tq)(c:Nat):Prop:=∃n,w.heap[c]?=some (.chan 0 #[] false n n false)
def I9 (gs gs':Array SG)(w w':Tq)(g:SG)(c:Nat):Prop:=(kP gs g->kP gs' g)/\(oC gs g c->zV w c->kP gs' g\/(oC gs' g c/\zV w' c))
def Calm (gs:Array SG):Prop:=∀i x,0<i->gs[i]?=some x->x.status=.blocked->x.offers=none
def flag (gs:Array SG)(ic:Nat):Nat:=if(gs[ic]?).any (·.status== .running)then 1 else 0
def jf (p:Phase)(N ic:Nat)(K:Nat->GS)(i:Nat):Prop:=if p.recv then 0<i/\i<N/\((K i).idx.isSome=true\/i=ic\/(K i).cnt=1\/(K i).late=1)else i=0\/(i<N/\(K i).idx.isSome=true)
section
variable {P:SI}{n0:Nat}{W0:Tq}{V:View}{gs:Array SG}{w:Tq}{t:Up}{K:Nat->GS}{Im:cE}{ic:Nat}{ph:Option Phase}{st:Option eB}
structure gH (P:SI)(n0:Nat)(W0:Tq)(V:View)(gs:Array SG)(w:Tq)(sl:Option (Nat×Nat))(t:Up)(K:Nat->GS)(Im:cE)(ic:Nat)(ph:Option Phase)(st:Option eB)(i:Nat):Prop where
 intro::
 ave:∃gs' w' ops K' st',runT P (crowd gs w sl) i=(.next (crowd gs' w' sl),ops)/\gs'.size=gs.size/\Inv P n0 W0 V gs' w' (t++ops) K' Im ic ph st'/\(∀g c,(∀p,ph=some p->p.c=c)->I9 gs gs' w w' g c)/\(∀g c,oC gs g c->Calm gs->Calm gs')/\
  B6 gs.size ((λj=>(K' j).dc),flag gs' ic) ((λj=>(K j).dc),flag gs ic)
theorem getElem?_next{gi bE:SG}{w':Tq}{i j:Nat}{x:SG}(hlt:i<gs.size)(h:((gs.map (woken P gi bE w')).setIfInBounds i bE)[j]?=some x):(j=i/\x=bE)\/(j≠i/\∃y,gs[j]?=some y/\x=woken P gi bE w' y):=by
 by_cases cx:j=i
 ·subst cx;rw[Tb (by simpa using hlt)]at h;exact .inl ⟨rfl,(Wb h).symm⟩
 ·rw[SW (Ne.symm cx),WI]at h;obtain⟨y,hy,rfl⟩:=Ts.1 h;exact .inr ⟨cx,y,hy,rfl⟩
theorem Rest.app{Wg:Nat}{t u:Up}{K K':Nat->GS}{ic:Nat}{s s':eB}(h:Rest Wg t K ic (some s))(hold:∀idx a,touchAt t idx=some a->xG Wg t K ic s idx->Wq (t++u) 0 idx\/xG Wg (t++u) K' ic s' idx)
  (w8:∀idx a,t.size<=idx->(∃op∈u,(t++u)[idx]?=some op/\op.act.touch?=some a)->a.loc.isMemory=true->Wq (t++u) 0 idx\/(a.kind=.atomic/\¬(t++u).heard idx)\/xG Wg (t++u) K' ic s' idx):Rest Wg (t++u) K' ic (some s'):=by
 intro idx a ha hm;rcases BH ha with gw|⟨hi,hx⟩
 ·obtain⟨op,ay,_⟩:=U1 gw;rcases h idx a gw hm with x|⟨x,y⟩|⟨s1,dW,x⟩
  ·exact .inl (x.app u)
  ·exact .inr (.inl ⟨x,λz=>y ((Wu (TN ay)).1 z)⟩)
  ·cases dW;exact(hold idx a gw x).imp id λy=> .inr ⟨s',rfl,y⟩
 ·exact(w8 idx a hi hx hm).imp id (λy=>y.imp id λz=>⟨s',rfl,z⟩)
theorem xG.app{Wg:Nat}{t u:Up}{K K':Nat->GS}{ic idx:Nat}{s:eB}(da:idx<t.size)(h:xG Wg t K ic s idx)(hK:∀i,t.g? idx=some i->0<i->(K i).idx.isSome=true->(K' i).idx.isSome=true\/∃r,Rel Wg (t++u) i r/\idx<=r):xG Wg (t++u) K' ic s idx:=by
 cases s with
 |early=>
  obtain⟨i,hg,h0,hx⟩:=h;refine⟨i,by rw[g?_old da];exact hg,h0,?_⟩;rcases hx with x|x|⟨r,x,y⟩
  ·exact(hK i hg h0 x).imp id .inr
  ·exact .inr (.inl x)
  ·exact .inr (.inr ⟨r,x.app,y⟩)
 |got=>exact Knows.app u h
 |shut p=>exact Before.app u h
end
def sF (ph:Option Phase):Loc->Prop:=match ph with|some p=>rG p.c p.Wg|none=>λ_=>False
def nF (ph:Option Phase)(N ic:Nat)(K:Nat->GS):Nat->Prop:=λi=>match ph with|some p=>jf p N ic K i|none=>False
def BK (ph:Option Phase):Nat:=match ph with|some p=>p.Wg|none=>0
section
variable {P:SI}{n0:Nat}{W0:Tq}{V:View}{gs:Array SG}{w w':Tq}{sl:Option (Nat×Nat)}{t:Up}{K:Nat->GS}{Im:cE}{ic:Nat}{ph:Option Phase}{st st':Option eB}
def zW (P:SI)(n0:Nat)(V:View)(gs:Array SG)(w:Tq)(t:Up)(K:Nat->GS)(Im:cE)(ic:Nat)(ph:Option Phase)(st:Option eB):Prop:=match ph with
  |none=>st=none
  |some p=>n0<=p.c/\n0<=p.Wg/\p.c≠p.Wg/\p.c<w.heap.size/\p.Wg<w.heap.size/\p.Ss.length<=4/\
   (∀i,0<i->((K i).view Im).own p.c=none/\(∀o,((K i).view Im).ab p.c o=none)/\((K i).view Im).own p.Wg=none/\(∀o,((K i).view Im).ab p.Wg o=none)/\((K i).nL=true->i=ic))/\
   (∀i i' j,0<i->i<gs.size->0<i'->i'<gs.size->(K i).idx=some j->(K i').idx=some j->i=i')/\
   (∀j S,p.Ss[j]?=some S->S≠[]->∃i,0<i/\i<gs.size/\(K i).idx=some j)/\
   (if p.recv then(V.own p.c=none/\(∀o,V.ab p.c o=none)/\V.own p.Wg=none/\(∀o,V.ab p.Wg o=none))/\0<ic/\ic<gs.size/\(∃s,st=some s/\Mode P p.c p.Wg gs.size w gs t K ic s)
    else V.own p.c=some (.chan 0 #[] false 0 0 false)/\ic=0/\st=some .early/\(∀i,0<i->i<gs.size->(K i).idx.isSome=true\/∃q,K i=.gone q)/\(∀S∈p.Ss,S≠[])/\(sumTo gs.size λi=>(K i).cnt)=p.Ss.length)
def BY (P:SI)(Im:cE)(ph:Option Phase)(k:GS)(d:Nat)(g:SG):Prop:=match ph with
  |some p=>k.is P p.c p.Wg Im p.Ss d g
  |none=>∃q,k=.gone q/\Y_ P q d g
theorem Inv.mk'(pos:0<gs.size)(k0:K 0=.gone 0)(d0:U0 t 0=V.deaf)(dj:∀i g,0<i->gs[i]?=some g->BY P Im ph (K i) (U0 t i) g)
  (hc:Core (bH V Im K) gs.size w t (sF ph) (nF ph gs.size ic K) ic n0 W0) (hr:Rest (BK ph) t K ic st) (hp:zW P n0 V gs w t K Im ic ph st):Inv P n0 W0 V gs w t K Im ic ph st:=by
 cases ph with
 |none=>exact⟨pos,k0,d0,dj,hc,hr,hp⟩
 |some p=>exact⟨pos,k0,d0,dj,hc,hr,hp⟩
theorem Inv.out(h:Inv P n0 W0 V gs w t K Im ic ph st):(∀i g,0<i->gs[i]?=some g->BY P Im ph (K i) (U0 t i) g)/\Core (bH V Im K) gs.size w t (sF ph) (nF ph gs.size ic K) ic n0 W0/\Rest (BK ph) t K ic st/\zW P n0 V gs w t K Im ic ph st:=by
 cases ph with
 |none=>exact⟨h.is,h.core,h.rest,h.phase⟩
 |some p=>exact⟨h.is,h.core,h.rest,h.phase⟩
theorem ahg{y:SG}(hy:y.status=.blocked->y.offers=none):(y.again w').status=.blocked->(y.again w').offers=none:=by
 obtain⟨f,cs,s,d,o⟩:=y;unfold YZ;cases s<;>cases o<;>simp_all
theorem ahh{g g' y:SG}(hy:y.status=.blocked->y.offers=none)(hb:(woken P g g' w' y).status=.blocked):(woken P g g' w' y).offers=none:=by
 unfold woken at hb⊢;split
 ·rename_i hh;rw[if_pos hh]at hb;exact ahg hy hb
 ·rename_i hh;rw[if_neg hh]at hb;exact hy hb
theorem Inv.ab7(h:Inv P n0 W0 V gs w t K Im ic ph st){i:Nat}{gi bE:SG}{es:Array Uu}{k':GS}(hi:0<i)(aN:gs[i]?=some gi)(aP:stepG P false gi w=.go bE w' es)
  (hk:BY P Im ph k' (deafBehind (U0 t i) es) bE) (tK:bE.status=.blocked->bE.offers=none) (gQ:∀p,ph=some p->(∃n,w'.heap[p.c]?=some (.chan 0 #[] false n n false))\/(∀j,0<j->j<gs.size->j≠i->(K j).idx=none))
  (yB:Core (bH V Im (upd K i k')) gs.size w' (t++Tc i gi.frame.fn gi.frame.place es) (sF ph) (nF ph gs.size ic (upd K i k')) ic n0 W0)
  (l9:Rest (BK ph) (t++Tc i gi.frame.fn gi.frame.place es) (upd K i k') ic st')
  (Dw:zW P n0 V ((gs.map (woken P gi bE w')).setIfInBounds i bE) w' (t++Tc i gi.frame.fn gi.frame.place es) (upd K i k') Im ic ph st')
  (jR:B6 gs.size ((λj=>(upd K i k' j).dc),flag ((gs.map (woken P gi bE w')).setIfInBounds i bE) ic) ((λj=>(K j).dc),flag gs ic))
  (pS:∀g c,(∀p,ph=some p->p.c=c)->I9 gs ((gs.map (woken P gi bE w')).setIfInBounds i bE) w w' g c):gH P n0 W0 V gs w sl t K Im ic ph st i:=by
 have hlt:i<gs.size:=(SR.1 aN).1;have eZ:(i==0)=false:=by simp;omega
 have aY:((gs.map (woken P gi bE w')).setIfInBounds i bE).size=gs.size:=by simp
 have DM:∀op∈Tc i gi.frame.fn gi.frame.place es,op.g=i:=λop ay=>by obtain⟨e,_,rfl⟩:=TQ ay;rfl
 refine⟨_,w',_,upd K i k',st',runT_crowd_go (P:=P) (sl:=sl) aN (by rw[eZ];exact aP),aY,?_,pS,?_,jR⟩
 rotate_left
 ·intro g c _ hc j x hj hx hb;rcases getElem?_next hlt hx with⟨_,rfl⟩|⟨_,y,hy,rfl⟩
  ·exact tK hb
  ·exact ahh (hc j y hj hy) hb
 refine Inv.mk' (by rw[aY];exact h.pos) (by rw[bf _ _ (by omega)];exact h.k0) ?_ (λj x hj hx=> ?_) (by rw[aY];exact yB) l9 Dw
 ·rw[avs t (g:=0) (g':=i) (by omega) _ DM];exact h.d0
 ·rcases getElem?_next hlt hx with⟨rfl,rfl⟩|⟨cx,y,hy,rfl⟩
  ·rw[bA,Deaf_own];exact hk
  ·rw[bf _ _ cx,avs t (g:=j) (g':=i) (Ne.symm cx) _ DM];have DZ:=h.out.1 j y hj hy;have LR:j<gs.size:=(SR.1 hy).1;cases ph with
   |none=>
    obtain⟨q,hq,p_⟩:=DZ;exact⟨q,hq,by rw[woken_quitsD p_];exact p_⟩
   |some p=>
    refine abl ?_ DZ;rcases gQ p rfl with x|x
    ·exact .inl x
    ·exact .inr (x j hj LR cx)
theorem Inv.next(h:Inv P n0 W0 V gs w t K Im ic ph st){i:Nat}{gi bE:SG}{es:Array Uu}{k':GS}(hi:0<i)(aN:gs[i]?=some gi)(aP:stepG P false gi w=.go bE w' es)
  (hk:BY P Im ph k' (deafBehind (U0 t i) es) bE) (tK:bE.status=.blocked->bE.offers=none) (gQ:∀p,ph=some p->(∃n,w'.heap[p.c]?=some (.chan 0 #[] false n n false))\/(∀j,0<j->j<gs.size->j≠i->(K j).idx=none))
  (yB:Core (bH V Im (upd K i k')) gs.size w' (t++Tc i gi.frame.fn gi.frame.place es) (sF ph) (nF ph gs.size ic (upd K i k')) ic n0 W0)
  (l9:Rest (BK ph) (t++Tc i gi.frame.fn gi.frame.place es) (upd K i k') ic st')
  (Dw:zW P n0 V ((gs.map (woken P gi bE w')).setIfInBounds i bE) w' (t++Tc i gi.frame.fn gi.frame.place es) (upd K i k') Im ic ph st')
  (vD:rE k'.dc (K i).dc)
  (pS:∀g c,(∀p,ph=some p->p.c=c)->I9 gs ((gs.map (woken P gi bE w')).setIfInBounds i bE) w w' g c):gH P n0 W0 V gs w sl t K Im ic ph st i:=
 h.ab7 hi aN aP hk tK gQ yB l9 Dw (.inl ⟨i,(SR.1 aN).1,by simpa only[bA]using vD,λj hj=>by show (upd K i k' j).dc=(K j).dc;rw[bf _ _ hj]⟩) pS
theorem aov{B:Nat}{e:Uu}(h:e.mute=true):(Tt e).touch?=none/\(Tt e).low B/\∀a,Tt e≠ .mark (.release a):=by
 refine⟨Z5 h,low_mute h B,λa=> ?_⟩;obtain⟨l,wr,sy⟩:=e;cases l with
 |mark m=>cases m<;>cases wr<;>cases sy<;>simp_all[Tt,WK]
 |_=>simp[WK]at h
theorem Mode.keep{c Wg N:Nat}{gs':Array SG}{u:Up}{K':Nat->GS}{s:eB}(h:Mode P c Wg N w gs t K ic s)(hs:∀j,(K' j).shape=(K j).shape)(hc:w'.heap[c]?=w.heap[c]?)(hW:w'.heap[Wg]?=w.heap[Wg]?)
  (hr:(∀g,gs[ic]?=some g->g.status=.running)->∀g,gs'[ic]?=some g->g.status=.running):Mode P c Wg N w' gs' (t++u) K' ic s:=by
 have e1:sumTo N (λi=>(K' i).cnt)=sumTo N λi=>(K i).cnt:=Vt λi _=>by rw[<- GS.nM,hs i,GS.nM]
 have e2:sumTo N (λi=>(K' i).late)=sumTo N λi=>(K i).late:=Vt λi _=>by rw[<- GS.mO,hs i,GS.mO]
 have e3:∀st sm,WgAt P Wg w' st sm=WgAt P Wg w st sm:=λst sm=>by unfold WgAt;rw[hW]
 unfold Mode at h⊢;simp only[e1,e2,e3,hs,hc];rcases h with h|h|h|h|h|h|h
 ·exact .inl h
 ·exact .inr (.inl h)
 ·exact .inr (.inr (.inl h))
 ·exact .inr (.inr (.inr (.inl ⟨h.1,h.2.1,h.2.2.1,h.2.2.2.1,h.2.2.2.2.1,hr h.2.2.2.2.2.1,h.2.2.2.2.2.2⟩)))
 ·exact .inr (.inr (.inr (.inr (.inl h))))
 ·exact .inr (.inr (.inr (.inr (.inr (.inl h)))))
 ·obtain⟨⟨p,n,a,b,c',d⟩,e⟩:=h;exact .inr (.inr (.inr (.inr (.inr (.inr ⟨⟨p,n,a,by rw[X8 (We b)];exact b,(Wu (We b)).2 c',d⟩,e⟩)))))
theorem ac2{i:Nat}{gi bE:SG}(hlt:i<gs.size)(hg:bE.status=.running)(h:∀g,gs[ic]?=some g->g.status=.running):∀g,((gs.map (woken P gi bE w')).setIfInBounds i bE)[ic]?=some g->g.status=.running:=by
 intro g Lx;rcases getElem?_next hlt Lx with⟨_,rfl⟩|⟨_,y,hy,rfl⟩
 ·exact hg
 ·rw[Ym (h y hy)];exact h y hy
theorem GS.abg{k:GS}(h:k.cnt=0):k.idx=none:=by
 cases k<;>first|rfl|(simp[GS.cnt]at h)
theorem Inv.opens(h:Inv P n0 W0 V gs w t K Im ic ph st){p:Phase}(hp:ph=some p):(∃n,w.heap[p.c]?=some (.chan 0 #[] false n n false))\/((∀j,0<j->j<gs.size->(K j).idx=none)/\(∃n,w.heap[p.c]?=some (.chan 0 #[] true n n false))/\p.recv=true):=by
 subst hp;obtain⟨_,hc,_,gR⟩:=h.out;obtain⟨_,_,_,_,_,_,_,_,_,hx⟩:=gR;by_cases hr:p.recv=true
 ·rw[if_pos hr]at hx;obtain⟨_,_,_,s,_,hm⟩:=hx;rcases hm with h|h|h|h|h|h|h
  ·exact .inl h.1
  ·exact .inl h.1
  ·exact .inl h.1
  ·exact .inl h.1
  ·exact .inl h.1
  ·exact .inl h.1
  ·obtain⟨⟨_,n,_,_,_,hn⟩,_,gY,_⟩:=h;refine .inr ⟨λj hj iJ=> ?_,⟨n,hn⟩,hr⟩;have hle:(K j).cnt<=sumTo gs.size λi=>(K i).cnt:=WG (f:=λi=>(K i).cnt) iJ;exact GS.abg (by omega)
 ·rw[if_neg hr]at hx;have:=(hc.sat 0 h.pos).own p.c _ (by simp only[bH,if_true];exact hx.1);exact .inl ⟨0,this⟩
theorem Inv.slip(h:Inv P n0 W0 V gs w t K Im ic ph st){i:Nat}{gi bE:SG}{es:Array Uu}{k':GS}(hi:0<i)(aN:gs[i]?=some gi)(aP:stepG P false gi w=.go bE w es)(jR:∀e∈es,e.mute=true)
  (hk:BY P Im ph k' (deafBehind (U0 t i) es) bE) (tK:bE.status=.blocked->bE.offers=none) (dl:k'.shape=(K i).shape) (mK:k'.view Im=(K i).view Im) (bL:(K i).shape=.iy 0\/(K i).shape=.said 0->bE.status=.running) (vD:rE k'.dc (K i).dc):gH P n0 W0 V gs w sl t K Im ic ph st i:=by
 have hlt:i<gs.size:=(SR.1 aN).1;obtain⟨_,hc,hr,hp⟩:=h.out;have da:∀j,((upd K i k') j).idx=(K j).idx:=λj=>by
  by_cases hj:j=i
  ·subst hj;rw[bA,<- GS.Hr,dl,GS.Hr]
  ·rw[bf _ _ hj]
 have l_:∀j,((upd K i k') j).shape=(K j).shape:=λj=>by
  by_cases hj:j=i
  ·subst hj;rw[bA,dl]
  ·rw[bf _ _ hj]
 have abc:∀j,((upd K i k') j).view Im=(K j).view Im:=λj=>by
  by_cases hj:j=i
  ·subst hj;rw[bA,mK]
  ·rw[bf _ _ hj]
 have pH:∀j,((upd K i k') j).cnt=(K j).cnt:=λj=>by rw[<- GS.nM,l_,GS.nM]
 have w6:∀j,((upd K i k') j).late=(K j).late:=λj=>by rw[<- GS.mO,l_,GS.mO]
 refine h.next (st':=st) hi aN aP hk tK (λp AX=>(h.opens AX).imp id λx j a b _=>x.1 j a b) ?_ ?_ ?_ vD ?_
 ·refine((hc.quiet hlt (λe he=>aov (jR e he)) gi.frame.fn gi.frame.place).congr λj hj=> ?_).Ck λj hj=> ?_
  ·simp only[bH,abc]
  ·cases ph with
   |none=>exact hj
   |some p=>simpa only[nF,jf,da,pH,w6]using hj
 ·cases st with
  |none=>
   intro idx a ha hm;have gw:=BI (λop ay=>by obtain⟨e,he,rfl⟩:=TQ ay;exact Z5 (jR e he)) ha;obtain⟨op,ay,_⟩:=U1 gw;rcases hr idx a gw hm with x|⟨x,y⟩|⟨_,z,_⟩
   ·exact .inl (x.app _)
   ·exact .inr (.inl ⟨x,λz=>y ((Wu (TN ay)).1 z)⟩)
   ·cases z
  |some s=>
   refine hr.app (λidx a ha hx=> .inr (hx.app (by obtain⟨op,ay,_⟩:=U1 ha;exact TN ay) λj _ _ hj=> .inl (by rw[da];exact hj))) (λidx a _ ⟨op,ay,_,hx⟩ _=> ?_);obtain⟨e,he,rfl⟩:=TQ ay;rw[Z5 (jR e he)]at hx;cases hx
 ·cases ph with
  |none=>exact hp
  |some p=>
   obtain⟨a1,a2,a3,a4,a5,a6,a7,a8,a9,bY⟩:=hp;refine⟨a1,a2,a3,a4,a5,a6,λj hj=>by rw[abc,<- GS.Qj,l_,GS.Qj];exact a7 j hj,λj j' m b1 b2 b3 b4 b5 b6=>a8 j j' m b1 (by simpa using b2) b3 (by simpa using b4) (by rw[<- da];exact b5) (by rw[<- da];exact b6),λj S b1 b2=> ?_,?_⟩
   ·obtain⟨m,c1,c2,c3⟩:=a9 j S b1 b2;exact⟨m,c1,by simpa using c2,by rw[da];exact c3⟩
   ·split
    ·rename_i aI;rw[if_pos aI]at bY;obtain⟨c1,c2,c3,s,c4,c5⟩:=bY;refine⟨c1,c2,by simpa using c3,s,c4,?_⟩;have aY:((gs.map (woken P gi bE w)).setIfInBounds i bE).size=gs.size:=(by simp);rw[aY];by_cases fX:i=ic/\bE.status≠ .running
     ·
      obtain⟨rfl,sf⟩:=fX;unfold Mode at c5⊢;have e1:sumTo gs.size (λj=>((upd K i k') j).cnt)=sumTo gs.size λj=>(K j).cnt:=Vt λj _=>pH j;have e2:sumTo gs.size (λj=>((upd K i k') j).late)=sumTo gs.size λj=>(K j).late:=Vt λj _=>w6 j;simp only[e1,e2,l_];rcases c5 with h|h|h|h|h|h|h
      ·exact .inl h
      ·exact .inr (.inl h)
      ·exact .inr (.inr (.inl h))
      ·exact absurd (bL h.2.2.2.2.2.2.symm) sf
      ·exact .inr (.inr (.inr (.inr (.inl h))))
      ·exact .inr (.inr (.inr (.inr (.inr (.inl h)))))
      ·obtain⟨⟨p,n,a,b,c',d⟩,e⟩:=h;exact .inr (.inr (.inr (.inr (.inr (.inr ⟨⟨p,n,a,by rw[X8 (We b)];exact b,(Wu (We b)).2 c',d⟩,e⟩)))))
     ·refine c5.keep l_ rfl rfl λsh g hg=> ?_;rcases getElem?_next hlt hg with⟨rfl,rfl⟩|⟨_,y,hy,rfl⟩
      ·exact Tv λx=>fX ⟨rfl,x⟩
      ·rw[Ym (sh y hy)];exact sh y hy
    ·rename_i aI;rw[if_neg aI]at bY;refine⟨bY.1,bY.2.1,bY.2.2.1,λj b1 b2=> ?_,bY.2.2.2.2.1,?_⟩
     rotate_left
     ·rw[show ((gs.map (woken P gi bE w)).setIfInBounds i bE).size=gs.size by simp,Vt λj _=>pH j];exact bY.2.2.2.2.2
     rcases bY.2.2.2.1 j b1 (by simpa using b2)with x|⟨q,x⟩
     ·exact .inl (by rw[da];exact x)
     ·by_cases hj:j=i
      ·subst hj;rw[bA];rw[x]at dl;cases k'<;>simp[GS.shape]at dl;exact .inr ⟨_,rfl⟩
      ·rw[bf _ _ hj];exact .inr ⟨q,x⟩
 ·intro g c _;exact⟨ND hi,λjp ho=> .inr ⟨NW hi jp ho,ho⟩⟩
end
section
variable {P:SI}{n0:Nat}{W0:Tq}{V:View}{gs:Array SG}{w w':Tq}{sl:Option (Nat×Nat)}{t:Up}{K:Nat->GS}{Im:cE}{ic:Nat}{p:Phase}{st st':Option eB}
def jD (p:Phase)(U:View):Prop:=U.own p.c=none/\(∀o,U.ab p.c o=none)/\U.own p.Wg=none/\(∀o,U.ab p.Wg o=none)
theorem jD.step{U U':View}{es:Array Uu}(b:jD p U)(s:dh U w U' w' es)(hc:p.c<w.heap.size)(hW:p.Wg<w.heap.size):jD p U':=by
 have key:∀b,b<w.heap.size->U.own b=none->(∀o,U.ab b o=none)->U'.own b=none/\∀o,U'.ab b o=none:=by
  intro b hb ho hi;refine⟨s.own b hb ho,λo=> ?_⟩;cases e:U'.ab b o with
  |none=>rfl
  |some v=>
   rcases s.kY b o v e with x|x|x
   ·rw[hi o]at x;cases x
   ·exact absurd ho x
   ·omega
 have k1:=key p.c hc b.1 b.2.1;have k2:=key p.Wg hW b.2.2.1 b.2.2.2;exact⟨k1.1,k1.2,k2.1,k2.2⟩
theorem jD.Bg{U:View}(b:jD p U){l:Loc}(h:gV U l):¬rG p.c p.Wg l:=by
 intro hs;cases l with
 |cell a=>
  have e:a.block=p.Wg:=hs;rcases h with h|h
  ·exact h (by rw[e];exact b.2.2.1)
  ·exact h (by rw[e];exact b.2.2.2 _)
 |obj r=>have e:r=p.c:=hs;exact h (by rw[e];exact b.1)
 |_=>exact hs
theorem jD.ghost{U U':View}(b:jD p U)(g:d_ U U'):jD p U':=by
 have key:∀b,U.own b=none->(∀o,U.ab b o=none)->U'.own b=none/\∀o,U'.ab b o=none:=by
  intro b ho hi;refine⟨g.own b ho,λo=> ?_⟩;cases e:U'.ab b o with
  |none=>rfl
  |some v=>
   rcases g.kY b o v e with x|x
   ·rw[hi o]at x;cases x
   ·exact absurd ho x
 have k1:=key p.c b.1 b.2.1;have k2:=key p.Wg b.2.2.1 b.2.2.2;exact⟨k1.1,k1.2,k2.1,k2.2⟩
theorem agW:jD p noView:=⟨rfl,λ_=>rfl,rfl,λ_=>rfl⟩
theorem Inv.blind(h:Inv P n0 W0 V gs w t K Im ic (some p) st){i:Nat}(hi:0<i):jD p ((K i).view Im):=let x:=h.phase.2.2.2.2.2.2.1 i hi;⟨x.1,x.2.1,x.2.2.1,x.2.2.2.1⟩
theorem Inv.sJ(h:Inv P n0 W0 V gs w t K Im ic (some p) st){i:Nat}(hi:0<i)(hc:(K i).nL=true):i=ic:=(h.phase.2.2.2.2.2.2.1 i hi).2.2.2.2 hc
theorem Inv.low(h:Inv P n0 W0 V gs w t K Im ic (some p) st):p.c<w.heap.size/\p.Wg<w.heap.size:=⟨h.phase.2.2.2.1,h.phase.2.2.2.2.1⟩
theorem adt(hc:p.c<w.heap.size)(hW:p.Wg<w.heap.size){l:Loc}(h:rG p.c p.Wg l):l.low w.heap.size:=by
 cases l with
 |cell a=>show a.block<_;rw[show a.block=p.Wg from h];exact hW
 |obj r=>show r<_;rw[show r=p.c from h];exact hc
 |_=>exact h.elim
theorem Inv.aht(h:Inv P n0 W0 V gs w t K Im ic (some p) st)(hr:p.recv=true){i:Nat}(hlt:i<gs.size)(hk:(K i).cnt=1):∃s,WgAt P p.Wg w s 0:=by
 obtain⟨_,_,_,_,_,_,_,_,_,hx⟩:=h.phase;rw[if_pos hr]at hx;obtain⟨_,_,_,s,hs,hm⟩:=hx;have hle:(K i).cnt<=sumTo gs.size λi=>(K i).cnt:=WG (f:=λi=>(K i).cnt) hlt;rcases hm with h|h|h|h|h|h|h
 ·exact⟨_,h.2.2.2.2.1⟩
 ·exact⟨_,h.2.2.2.2.2.1⟩
 ·have:=h.2.2.2.1;omega
 ·have:=h.2.2.2.1;omega
 ·have:=h.2.2.2.1;omega
 ·have:=h.2.2.2.1;omega
 ·have:=h.2.2.1;omega
theorem Inv.Pw(h:Inv P n0 W0 V gs w t K Im ic (some p) st)(hr:p.recv=true){n:Nat}(hk:K ic=.acq n\/K ic=.said n):∃x y,WgAt P p.Wg w x y:=by
 obtain⟨_,_,_,_,_,_,_,_,_,hx⟩:=h.phase;rw[if_pos hr]at hx;obtain⟨_,_,_,s,hs,hm⟩:=hx;unfold Mode at hm;rcases hm with h|h|h|h|h|h|h
 ·exact⟨_,_,h.2.2.2.2.1⟩
 ·exact⟨_,_,h.2.2.2.2.2.1⟩
 ·have key:∀N,0<(sumTo N λi=>(K i).late)->∃i,i<N/\(K i).late≠0:=by
   intro N;induction N with
   |zero=>intro h;exact absurd h (by simp[sumTo])
   |succ N ih=>
    intro h;by_cases h0:(K N).late=0
    ·simp only[sumTo,h0]at h;obtain⟨i,hi,hl⟩:=ih (by omega);exact⟨i,by omega,hl⟩
    ·exact⟨N,by omega,h0⟩
  have:=key gs.size (by have:=h.2.2.1;omega);obtain⟨i,hi,hl⟩:=this;cases lz:K i<;>rw[lz]at hl<;>first
   |exact⟨_,_,h.2.2.2.2.2.1 i hi (by rw[lz];exact .inl rfl)⟩
   |exact⟨_,_,h.2.2.2.2.2.1 i hi (by rw[lz];exact .inr rfl)⟩
   |exact⟨_,_,h.2.2.2.2.2.2 i hi (by rw[lz];rfl)⟩
   |exact absurd rfl hl
 ·exact⟨_,_,h.2.2.2.2.1⟩
 ·exact⟨_,_,h.2.2.2.2.1⟩
 ·exfalso;rcases hk with hk|hk<;>rw[hk]at h<;>rcases h.2.2.2.2 with h|h<;>cases h
 ·exfalso;rcases hk with hk|hk<;>rw[hk]at h<;>cases h.2.2.2
theorem Inv.counted(h:Inv P n0 W0 V gs w t K Im ic (some p) st){i:Nat}(_hi:0<i)(hlt:i<gs.size)(hk:(K i).cnt=1):(∃n,w.heap[p.c]?=some (.chan 0 #[] false n n false))/\st=some .early:=by
 have gR:=h.phase;obtain⟨_,_,_,_,_,_,_,_,_,hx⟩:=gR;by_cases hr:p.recv=true
 ·rw[if_pos hr]at hx;obtain⟨_,_,_,s,hs,hm⟩:=hx;have hle:(K i).cnt<=sumTo gs.size λi=>(K i).cnt:=WG (f:=λi=>(K i).cnt) hlt;rcases hm with h|h|h|h|h|h|h
  ·exact⟨h.1,by rw[hs,h.2.1]⟩
  ·exact⟨h.1,by rw[hs,h.2.1]⟩
  ·exact⟨h.1,by rw[hs,h.2.1]⟩
  ·exact⟨h.1,by rw[hs,h.2.1]⟩
  ·exact⟨h.1,by rw[hs,h.2.1]⟩
  ·have:=h.2.2.2.1;omega
  ·have:=h.2.2.1;omega
 ·rw[if_neg hr]at hx;have:=(h.core.sat 0 h.pos).own p.c _ (by simp only[bH,if_true];exact hx.1);exact⟨⟨0,this⟩,hx.2.2.1⟩
theorem Inv.NY(h:Inv P n0 W0 V gs w t K Im ic (some p) st){i:Nat}{k':GS}{gs':Array SG}{t':Up}(aY:gs'.size=gs.size)(iW:w.heap.size<=w'.heap.size)(hb:jD p (k'.view Im))(yz:k'.nL=true->i=ic)
  (da:k'.idx=(K i).idx\/(k'.idx=none/\∀j,(K i).idx=some j->p.Ss[j]?=some []))
  (ep:if p.recv then∃s,st'=some s/\Mode P p.c p.Wg gs.size w' gs' t' (upd K i k') ic s
    else st'=some .early/\k'.idx.isSome=true/\k'.cnt=(K i).cnt):zW P n0 V gs' w' t' (upd K i k') Im ic (some p) st':=by
 obtain⟨a1,a2,a3,a4,a5,a6,a7,a8,a9,bY⟩:=h.phase;have qM:∀j m,((upd K i k') j).idx=some m->(K j).idx=some m:=by
  intro j m hj;by_cases cx:j=i
  ·subst cx;rw[bA]at hj;rcases da with x|⟨x,_⟩
   ·rw[<- x];exact hj
   ·rw[x]at hj;cases hj
  ·rw[bf _ _ cx]at hj;exact hj
 refine⟨a1,a2,a3,Te a4 iW,Te a5 iW,a6,λj hj=> ?_,λj j' m b1 b2 b3 b4 b5 b6=>a8 j j' m b1 (aY▸b2) b3 (aY▸b4) (qM _ _ b5) (qM _ _ b6),λj S b1 b2=> ?_,?_⟩
 ·by_cases cx:j=i
  ·subst cx;rw[bA];exact⟨hb.1,hb.2.1,hb.2.2.1,hb.2.2.2,yz⟩
  ·rw[bf _ _ cx];exact a7 j hj
 ·obtain⟨m,c1,c2,c3⟩:=a9 j S b1 b2;refine⟨m,c1,by rw[aY];exact c2,?_⟩;by_cases cX:m=i
  ·subst cX;rw[bA];rcases da with x|⟨_,x⟩
   ·rw[x];exact c3
   ·have:=x j c3;rw[this]at b1;cases b1;exact absurd rfl b2
  ·rw[bf _ _ cX];exact c3
 ·split
  ·rename_i aI;rw[if_pos aI]at bY ep;obtain⟨c1,c2,c3,_⟩:=bY;exact⟨c1,c2,by rw[aY];exact c3,by rw[aY];exact ep⟩
  ·rename_i aI;rw[if_neg aI]at bY ep;obtain⟨c1,c2,_,c4,c5⟩:=bY;refine⟨c1,c2,ep.1,λj b1 b2=> ?_,c5.1,by rw[aY,lQ K k' GS.cnt ep.2.2];exact c5.2⟩;by_cases cx:j=i
   ·subst cx;rw[bA];exact .inl ep.2.1
   ·rw[bf _ _ cx];exact c4 j b1 (aY▸b2)
theorem Inv.aey(h:Inv P n0 W0 V gs w t K Im ic (some p) st){i j:Nat}{gi bE:SG}{es:Array Uu}{hh h':Ht}{Vi V':View}(hi:0<i)(aN:gs[i]?=some gi)(hK:K i=.work j hh Vi)(aP:stepG P false gi w=.go bE w' es)
  (s:dh Vi w V' w' es) (hk:lU P h' V' bE) (mF:BX h' hh):gH P n0 W0 V gs w sl t K Im ic (some p) st i:=by
 have hlt:i<gs.size:=(SR.1 aN).1;have dj:=h.is i gi hi aN;simp only[hK,GS.is]at dj;obtain⟨hd,_,S,hS,jq⟩:=dj;have gY:(K i).cnt=1:=by rw[hK];rfl
 obtain⟨⟨n,gQ⟩,lH⟩:=h.counted hi hlt gY;have iA:=h.low;have cR:jD p Vi:=by have:=h.blind hi;rw[hK]at this;exact this
 have akO:=cR.step s iA.1 iA.2;have mK:bH V Im K i=Vi:=by simp[bH,hK,GS.view];omega
 have ff:w'.heap[p.c]?=w.heap[p.c]?:=s.frame p.c iA.1 cR.1;have hWh:w'.heap[p.Wg]?=w.heap[p.Wg]?:=s.frame p.Wg iA.2 cR.2.2.1;have l_:∀m,((upd K i (.work j h' V')) m).shape=(K m).shape:=λm=>by
  by_cases hm:m=i
  ·subst hm;rw[bA,hK];rfl
  ·rw[bf _ _ hm]
 have da:∀m,((upd K i (.work j h' V')) m).idx=(K m).idx:=λm=>by rw[<- GS.Hr,l_,GS.Hr]
 have pH:∀m,((upd K i (.work j h' V')) m).cnt=(K m).cnt:=λm=>by rw[<- GS.nM,l_,GS.nM]
 have w6:∀m,((upd K i (.work j h' V')) m).late=(K m).late:=λm=>by rw[<- GS.mO,l_,GS.mO]
 have cp:V'.role=Vi.role:=s.role;refine h.next (k':=.work j h' V') (st':=st) hi aN aP ⟨by rw[hd,s.deaf],hk,S,hS,cp.trans jq⟩ (λx=>by rw[hk.running]at x;cases x) (λq hq=>by cases hq;exact .inl ⟨n,by rw[ff];exact gQ⟩) ?_ ?_ ?_ ?_ ?_
 ·rw[OY V Im K hi];refine(Core.step (V':=V') h.core hlt (by rw[mK];exact s) (λe he x hx hs=> ?_) gi.frame.fn gi.frame.place).Ck λm hm=> ?_
  ·exfalso;rcases(J7 (s.ft e he) hx).1 with y|⟨y,_⟩|y
   ·exact cR.Bg y.rd hs
   ·exact cR.Bg y hs
   ·exact y (adt iA.1 iA.2 hs)
  ·simpa only[nF,jf,da,pH,w6]using hm
 ·rw[lH];have hr:Rest (BK (some p)) t K ic st:=h.out.2.2.1;rw[lH]at hr;refine hr.app (λidx a ha hx=> .inr (hx.app (by obtain⟨op,ay,_⟩:=U1 ha;exact TN ay) λm _ _ hm=> .inl (by rw[da];exact hm))) (λidx a _ ⟨op,ay,yG,_⟩ _=> .inr (.inr ⟨i,?_,hi,.inl ?_⟩))
  ·obtain⟨e,_,rfl⟩:=TQ ay;simp[WE,yG]
  ·rw[bA];rfl
 ·refine h.NY (by simp) s.size akO (λx=>by cases x) (.inl (by rw[hK];rfl)) ?_;have hx:=h.phase.2.2.2.2.2.2.2.2.2;split
  ·rename_i aI;rw[if_pos aI]at hx;obtain⟨_,_,_,s',pX,hm⟩:=hx;exact⟨s',pX,hm.keep l_ ff hWh λsh=>ac2 hlt hk.running sh⟩
  ·exact⟨lH,rfl,by rw[hK];rfl⟩
 ·rw[hK];refine .inr ⟨by simp[GS.dc,cp],.inl mF⟩
 ·intro g c Li;have ho:zV w' c:=⟨n,by rw[<- Li p rfl,ff];exact gQ⟩;exact⟨ND hi,λjp _=> .inr ⟨NW hi jp ho,ho⟩⟩
end
def oi (V:View)(I':cE)(O':B8)(r:nB):View:=
 {V with ab:=λb o=>match V.ab b o with|some x=>some x|none=>I' b o,own:=λb=>match V.own b with|some x=>some x|none=>O' b,role:=r}
def mo (B:Nat->Bool)(U:View):B8:=λb=>if B b then U.own b else none
def mi (B:Nat->Bool)(U:View)(r:nB):View:={U with own:=λb=>if B b then none else U.own b,role:=r}
section
variable {P:SI}{n0:Nat}{W0:Tq}{V:View}{gs gs':Array SG}{w w':Tq}{sl:Option (Nat×Nat)}{t:Up}{K:Nat->GS}{Im:cE}{ic:Nat}{p:Phase}{st:Option eB}
theorem acs{k:GS}{d:Nat}{x:SG}(h:k.is P p.c p.Wg Im p.Ss d x)(r:Nat):offersAt x r false=[]:=by
 rcases GS.runs h with hr|⟨hf,_⟩|⟨j,h',V,V',g0,v,z,rfl⟩|⟨_,hb,ho⟩
 ·exact U2 (by rw[hr];simp) r false
 ·exact U2 (by rw[hf];simp) r false
 ·obtain⟨_,_,rfl,_⟩:=h;exact offersAt_parked_send' _ _ _ _ _ _
 ·unfold offersAt;simp[hb,ho]
theorem aoe{g:SG}(h:kP gs g){x:SG}(hx:gs[0]?=some x)(r:Nat)(s:Bool):offersAt x r s=[]:=by
 obtain⟨g0,h0,h1,_⟩:=h;rw[h0]at hx;cases hx;exact U2 (by rw[h1];simp) r s
theorem Inv.aty(h:Inv P n0 W0 V gs w t K Im ic (some p) st){g:SG}(hm:kP gs g){i j:Nat}{gi:SG}{hh h':Ht}{Vi V₁:View}{sp:Spec}{S:List Spec}{v z:SQ}{B:Nat->Bool}(hi:0<i)(aN:gs[i]?=some gi)
  (hK:K i=.work j hh Vi) (hg:d_ Vi V₁) (hr:V₁.role=.work p.c p.Wg (sp::S)) (hd:V₁.deaf=0) (aP:stepG P false gi w=.comm gi #[scase p.c v z] true .send w #[])
  (qW:sp v V₁.ab (mo B V₁)) (hk:lU P h' (mi B V₁ (.work p.c p.Wg S)) (Ua gi undef)):gH P n0 W0 V gs w sl t K Im ic (some p) st i:=by
 have hlt:i<gs.size:=(SR.1 aN).1;have dj:=h.is i gi hi aN;simp only[hK,GS.is]at dj;obtain⟨bB,_,S',hS,jq⟩:=dj;have gY:(K i).cnt=1:=by rw[hK];rfl
 obtain⟨⟨n,gQ⟩,lH⟩:=h.counted hi hlt gY;have eZ:(i==0)=false:=by simp;omega
 have er:nB.work p.c p.Wg S'=.work p.c p.Wg (sp::S):=by rw[<- jq,<- hg.role,hr]
 cases er;let k':GS:=.ox j h' V₁ (mi B V₁ (.work p.c p.Wg S)) gi v z;have hw:=crowd_waits (P:=P) (sl:=sl) (i:=i) aN (by rw[eZ];exact aP) (λcc jm=>by
  simp only[TO,SK,SZ,or_false]at jm;subst jm;refine ways_send_none gQ (by simp) (partners_nil λm x hx=> ?_);rcases Yc gs i m x hx with⟨_,rfl⟩|⟨_,jT⟩
  ·exact Zt _ _
  ·rcases UL m with rfl|h_
   ·exact aoe hm jT _ _
   ·exact acs (h.is m x h_ jT) _)
 have mK:bH V Im K i=Vi:=by simp[bH,hK,GS.view];omega
 have cR:jD p Vi:=by have:=h.blind hi;rw[hK]at this;exact this
 have da:∀m,((upd K i k') m).idx=(K m).idx:=λm=>by
  by_cases hm:m=i
  ·subst hm;rw[bA,hK];rfl
  ·rw[bf _ _ hm]
 have l_:∀m,((upd K i k') m).shape=(K m).shape:=λm=>by
  by_cases hm:m=i
  ·subst hm;rw[bA,hK];rfl
  ·rw[bf _ _ hm]
 have pH:∀m,((upd K i k') m).cnt=(K m).cnt:=λm=>by rw[<- GS.nM,l_,GS.nM]
 have w6:∀m,((upd K i k') m).late=(K m).late:=λm=>by rw[<- GS.mO,l_,GS.mO]
 have e0:t++Tc i gi.frame.fn gi.frame.place #[]=t:=by simp[Tc]
 have aY:(gs.setIfInBounds i (parked gi #[scase p.c v z] .send)).size=gs.size:=by simp
 refine⟨_,w,_,upd K i k',st,hw,aY,?_,λg' c _=>⟨λ⟨g0,a,b⟩=>⟨g0,by rw[SW (by omega)];exact a,b⟩,λ⟨g0,z',a,b⟩ ho=> .inr ⟨⟨g0,z',by rw[SW (by omega)];exact a,b⟩,ho⟩⟩,λg' c ⟨g1,z',a,_⟩ _=>(by obtain⟨g0,h0,h1,_⟩:=hm;rw[a]at h0;cases h0;cases h1),
  .inl ⟨i,hlt,?_,λm hm=>by show (upd K i k' m).dc=(K m).dc;rw[bf _ _ hm]⟩⟩
 ·rw[e0];refine Inv.mk' (by rw[aY];exact h.pos) (by rw[bf _ _ (by omega)];exact h.k0) h.d0 (λm x hm hx=> ?_) ?_ ?_ ?_
  ·by_cases cX:m=i
   ·subst cX;rw[Tb hlt]at hx;cases hx;rw[bA];exact⟨by rw[bB,<- hg.deaf,hd],hd,rfl,hk,sp,S,B,hS,hr,qW,rfl⟩
   ·rw[SW (Ne.symm cX)]at hx;rw[bf _ _ cX];exact h.is m x hm hx
  ·rw[aY,OY V Im K hi];exact(Core.ghost (V':=V₁) h.core hlt (by rw[mK];exact hg)).Ck λm hm=>by simpa only[nF,jf,da,pH,w6]using hm
  ·have hr:Rest (BK (some p)) t K ic st:=h.out.2.2.1;rw[lH]at hr⊢;have:=hr.app (u:=#[]) (K':=upd K i k') (s':=.early) (λidx a ha hx=> .inr (hx.app (by obtain⟨op,ay,_⟩:=U1 ha;exact TN ay) λm _ _ hm=> .inl (by rw[da];exact hm))) (λidx a _ ⟨op,ay,_⟩ _=>by simp at ay);simpa using this
  ·refine h.NY aY (SP _) (cR.ghost hg) (λx=>by cases x) (.inl (by rw[hK];rfl)) ?_;have hx:=h.phase.2.2.2.2.2.2.2.2.2;split
   ·rename_i aI;rw[if_pos aI]at hx;obtain⟨_,gA,_,s',pX,fZ⟩:=hx;refine⟨s',pX,?_⟩;have:=fZ.keep (w':=w) (gs':=gs.setIfInBounds i (parked gi #[scase p.c v z] .send)) (u:=#[]) l_ rfl rfl λsh x hx=>by
     by_cases fX:ic=i
     ·subst fX;exfalso;unfold Mode at fZ;have aG:∀s:GS,(K ic).shape=s->s=.work j .z noView:=λs e=>(by rw[<- e,hK];rfl);rcases fZ with h|h|h|h|h|h|h
      ·rcases h.2.2.2.2.2 with⟨_,e,_⟩|⟨_,e,_⟩<;>cases aG _ e
      ·rcases h.2.2.2.2.2.2 with e|e<;>cases aG _ e
      ·rcases h.2.2.2.2.1 with e|e<;>cases aG _ e
      ·rcases h.2.2.2.2.2.2 with e|e<;>cases aG _ e
      ·rcases h.2.2.2.2.2 with e|e<;>cases aG _ e
      ·rcases h.2.2.2.2 with e|e<;>cases aG _ e
      ·cases aG _ h.2.2.2
     ·rw[SW (Ne.symm fX)]at hx;exact sh x hx
    simpa using this
   ·exact⟨lH,rfl,by rw[hK];rfl⟩
 ·show rE (upd K i k' i).dc (K i).dc;rw[hK];refine .inl ?_;simp only[bA,k',GS.dc,hr,jq];omega
theorem Mode.anb{c Wg N:Nat}{u:Up}{K':Nat->GS}{s:eB}(h:Mode P c Wg N w gs t K ic s)(gY:1<=sumTo N λi=>(K i).cnt)(hs:∀j,(K' j).shape=(K j).shape)(ho:∃n,w'.heap[c]?=some (.chan 0 #[] false n n false)) (hW:w'.heap[Wg]?=w.heap[Wg]?):Mode P c Wg N w' gs' (t++u) K' ic s:=by
 have e1:sumTo N (λi=>(K' i).cnt)=sumTo N λi=>(K i).cnt:=Vt λi _=>by rw[<- GS.nM,hs i,GS.nM]
 have e2:sumTo N (λi=>(K' i).late)=sumTo N λi=>(K i).late:=Vt λi _=>by rw[<- GS.mO,hs i,GS.mO]
 have e3:∀st sm,WgAt P Wg w' st sm=WgAt P Wg w st sm:=λst sm=>by unfold WgAt;rw[hW]
 unfold Mode at h⊢;simp only[e1,e2,e3,hs];rcases h with h|h|h|h|h|h|h
 ·exact .inl ⟨ho,h.2⟩
 ·exact .inr (.inl ⟨ho,h.2⟩)
 ·have:=h.2.2.2.1;omega
 ·have:=h.2.2.2.1;omega
 ·have:=h.2.2.2.1;omega
 ·have:=h.2.2.2.1;omega
 ·have:=h.2.2.1;omega
theorem Inv.met(h:Inv P n0 W0 V gs w t K Im ic (some p) st)(aI:p.recv=true)(gL:V.deaf=0){i j:Nat}{h':Ht}{V₁:View}{gi:SG}{sp:Spec}{S:List Spec}{B:Nat->Bool}(hi:0<i)(hlt:i<gs.size)
  (yH:(K i).idx=some j) (hg:d_ ((K i).view Im) V₁) (hr:V₁.role=.work p.c p.Wg (sp::S)) (hd:V₁.deaf=0) (oU:U0 t i=0) (hS:p.Ss[j]?=some (sp::S))
  (hk:lU P h' (mi B V₁ (.work p.c p.Wg S)) (Ua gi undef)) (aY:gs'.size=gs.size) (aN:gs'[i]?=some (Ua gi undef)) (hgo:∀m,m≠i->0<m->gs'[m]?=gs[m]?)
  {u:Up} {x0 x1 x2 x3:Wi} (hu:u=#[x0,x1,x2,x3]) {s:Nat} (h0:x0.g=i/\x0.act=.send p.c s) (h1:x1.g=0/\x1.act=.recv p.c s 0) (h2:x2.g=i/\x2.act=.sendDone p.c s) (h3:x3.g=0/\x3.act=.recvDone p.c s)
  (bJ:w'.heap.size=w.heap.size) (eS:∀b,b≠p.c->w'.heap[b]?=w.heap[b]?) (kW:∃n,w'.heap[p.c]?=some (.chan 0 #[] false n n false)) (uf:w'.tape=w.tape) (MI:w'.os=w.os) (hw6:w'.output=w.output):
  (∀b,V.own b≠none->mo B V₁ b=none)/\(∀b o,V.own b≠none->V₁.ab b o≠none->V.ab b o≠none)/\
  Inv P n0 W0 (oi V V₁.ab (mo B V₁) (.recv p.c p.Wg (p.Ss.set j S))) gs' w' (t++u) (upd K i (.work j h' (mi B V₁ (.work p.c p.Wg S)))) Im ic (some {p with Ss:=p.Ss.set j S}) st:=by
 obtain⟨dj,hc,l9,gR⟩:=h.out;obtain⟨a1,a2,a3,a4,a5,a6,a7,a8,a9,bY⟩:=gR;rw[if_pos aI]at bY;obtain⟨⟨c1,c2,c3,c4⟩,c5,c6,s',c7,c8⟩:=bY;have C4:jD p V:=⟨c1,c2,c3,c4⟩;have wN:=(h.blind hi).ghost hg;have mK:bH V Im K i=(K i).view Im:=by simp[bH];omega
 have cY:bH V Im K 0=V:=by simp[bH]
 have du:Core (upd (bH V Im K) i V₁) gs.size w t (sF (some p)) (nF (some p) gs.size ic K) ic n0 W0:=hc.ghost hlt (by rw[mK];exact hg);have dW:Sat V₁ w:=by have:=du.sat i hlt;rwa [bA]at this
 have de:Sat V w:=by have:=du.sat 0 h.pos;rwa [bf _ _ (by omega),cY]at this
 have FU:j4 V V₁:=by have:=du.dR 0 i h.pos hlt (by omega);rwa [bf _ _ (show 0≠i by omega),bA,cY]at this
 have QD:j4 V₁ V:=by have:=du.dR i 0 hlt h.pos (by omega);rwa [bA,bf _ _ (show 0≠i by omega),cY]at this
 have alg:∀b,V.own b≠none->mo B V₁ b=none:=λb hb=>by
  unfold mo;split
  ·exact(FU b hb).1
  ·rfl
 refine⟨alg,λb o hb=>(FU b hb).2 o,?_⟩;have jR:∀op∈u,op.act.touch?=none/\still op.act/\(op.g=0\/op.g=i)/\op.act.low w.heap.size/\∀a,op.act≠ .mark (.release a):=by
  intro op ay;rw[hu]at ay;simp only[TO,SK,SZ,or_false]at ay;rcases ay with rfl|rfl|rfl|rfl
  ·rw[h0.2,h0.1];exact⟨rfl,⟨by simp,by simp⟩,.inr rfl,a4,by simp⟩
  ·rw[h1.2,h1.1];exact⟨rfl,⟨by simp,by simp⟩,.inl rfl,a4,by simp⟩
  ·rw[h2.2,h2.1];exact⟨rfl,⟨by simp,by simp⟩,.inr rfl,a4,by simp⟩
  ·rw[h3.2,h3.1];exact⟨rfl,⟨by simp,by simp⟩,.inl rfl,a4,by simp⟩
 have n_:∀op∈u,still op.act:=λop ay=>(jR op ay).2.1;have vg:∀m,U0 (t++u) m=U0 t m:=λm=>Deaf_still n_;have d00:U0 t 0=0:=by rw[h.d0,gL]
 have cr:∀idx,Wq t i idx->Wq (t++u) 0 idx:=λidx hx=>aom hu h0 (jR x1 (by rw[hu];simp)).2.1 (jR x2 (by rw[hu];simp)).2.1 h3 oU d00 hx;let k':GS:=.work j h' (mi B V₁ (.work p.c p.Wg S));let V':View:=oi V V₁.ab (mo B V₁) (.recv p.c p.Wg (p.Ss.set j S));have da:∀m,((upd K i k') m).idx=(K m).idx:=λm=>by
  by_cases hm:m=i
  ·subst hm;rw[bA,yH];rfl
  ·rw[bf _ _ hm]
 have dl:(K i).shape=.work j .z noView:=by
  cases lz:K i<;>rw[lz]at yH<;>simp[GS.idx]at yH
  ·subst yH;rfl
  ·subst yH;rfl
 have l_:∀m,((upd K i k') m).shape=(K m).shape:=λm=>by
  by_cases hm:m=i
  ·subst hm;rw[bA,dl];rfl
  ·rw[bf _ _ hm]
 have pH:∀m,((upd K i k') m).cnt=(K m).cnt:=λm=>by rw[<- GS.nM,l_,GS.nM]
 have w6:∀m,((upd K i k') m).late=(K m).late:=λm=>by rw[<- GS.mO,l_,GS.mO]
 have gY:(K i).cnt=1:=by rw[<- GS.nM,dl];rfl
 have lH:=(h.counted hi hlt gY).2;have sO:bH V' Im (upd K i k') 0=V':=by simp[bH]
 have xA:bH V' Im (upd K i k') i=mi B V₁ (.work p.c p.Wg S):=by simp[bH,bA,k',GS.view];omega
 have xB:∀m,m≠0->m≠i->bH V' Im (upd K i k') m=upd (bH V Im K) i V₁ m:=λm h1 h2=>by simp[bH,bf _ _ h2,h1]
 have Eu:upd (bH V Im K) i V₁ 0=V:=by rw[bf _ _ (by omega),cY]
 have xk:upd (bH V Im K) i V₁ i=V₁:=bA _ _ _;have kT:∀{U:View},jD p U->Sat U w->Sat U w':=λ{U} hb hs=>⟨λb o v e=>by
   have aG:b≠p.c:=λx=>(by rw[x,hb.2.1 o]at e;cases e);have:=hs.ab b o v e;simp only[UC,eS b aG]at this⊢;exact this,λb x e=>by
   have aG:b≠p.c:=λy=>(by rw[y,hb.1]at e;cases e);rw[eS b aG];exact hs.own b x e⟩
 have amv:Sat V' w:=⟨λb o v e=>by
   simp only[V',oi]at e;split at e
   ·rename_i x hx;cases e;exact de.ab b o _ hx
   ·exact dW.ab b o v e,λb x e=>by
   simp only[V',oi]at e;split at e
   ·rename_i y hy;cases e;exact de.own b _ hy
   ·unfold mo at e;split at e
    ·exact dW.own b x e
    ·cases e⟩
 have C5:jD p V':=⟨by simp[V',oi,c1,mo,wN.1],λo=>by simp[V',oi,c2,wN.2.1],by simp[V',oi,c3,mo,wN.2.2.1],λo=>by simp[V',oi,c4,wN.2.2.2]⟩;have hsK:Sat (mi B V₁ (.work p.c p.Wg S)) w:=⟨dW.ab,λb x e=>by
   simp only[mi]at e;split at e
   ·cases e
   ·exact dW.own b x e⟩
 have C3:jD p (mi B V₁ (.work p.c p.Wg S)):=⟨by simp[mi,wN.1],wN.2.1,by simp[mi,wN.2.2.1],wN.2.2.2⟩;have Bn:∀b,V'.own b≠none->V.own b≠none\/(B b=true/\V₁.own b≠none):=λb hb=>by
  simp only[V',oi]at hb;split at hb
  ·rename_i y hy;exact .inl (by rw[hy];simp)
  ·unfold mo at hb;split at hb
   ·rename_i hB;exact .inr ⟨hB,hb⟩
   ·exact absurd rfl hb
 have vL:∀b o,V'.ab b o≠none<->(V.ab b o≠none\/V₁.ab b o≠none):=λb o=>by
  simp only[V',oi];cases e:V.ab b o with
  |some x=>simp
  |none=>simp
 have Bp:∀b,(mi B V₁ (.work p.c p.Wg S)).own b≠none->B b=false/\V₁.own b≠none:=λb hb=>by
  simp only[mi]at hb;split at hb
  ·exact absurd rfl hb
  ·rename_i hB;exact⟨by simpa using hB,hb⟩
 have yB:Core (bH V' Im (upd K i k')) gs.size w' (t++u) (sF (some p)) (nF (some p) gs.size ic K) ic n0 W0:=by
  refine⟨λm hm=> ?_,λa b ha hb gM=> ?_,?_,uf.trans hc.tape,MI.trans hc.os,hw6.trans hc.out,λb hb=>(eS b (by omega)).trans (hc.old b hb),λm hm b hb=> ?_,by rw[bJ];exact hc.n0⟩
  ·by_cases h_:m=0
   ·subst h_;rw[sO];exact kT C5 amv
   ·by_cases cX:m=i
    ·subst cX;rw[xA];exact kT C3 hsK
    ·rw[xB m h_ cX,bf _ _ cX];have:=hc.sat m hm;refine kT ?_ this;have e:bH V Im K m=(K m).view Im:=(by simp[bH,h_]);rw[e];exact h.blind (by omega)
  ·
   have dm:∀m,m<gs.size->m≠0->m≠i->j4 (upd (bH V Im K) i V₁ m) V/\j4 V (upd (bH V Im K) i V₁ m)/\j4 (upd (bH V Im K) i V₁ m) V₁/\j4 V₁ (upd (bH V Im K) i V₁ m):=λm hm h1 h2=>
    ⟨by have:=du.dR m 0 hm h.pos h1;rwa [Eu]at this,by have:=du.dR 0 m h.pos hm (Ne.symm h1);rwa [Eu]at this,by have:=du.dR m i hm hlt h2;rwa [xk]at this,by have:=du.dR i m hlt hm (Ne.symm h2);rwa [xk]at this⟩
   by_cases Ay:a=0
   ·subst Ay;by_cases fu:b=i
    ·subst fu;rw[sO,xA];intro q hq;rcases Bn q hq with x|⟨hB,x⟩
     ·refine⟨?_,λo ho=>(vL q o).2 (.inl ((FU q x).2 o ho))⟩;simp only[mi];split
      ·rfl
      ·exact(FU q x).1
     ·refine⟨by simp only[mi,hB,if_true],λo ho=>(vL q o).2 (.inr ho)⟩
    ·have qI:b≠0:=Ne.symm gM;rw[sO,xB b qI fu];obtain⟨_,e2,_,e4⟩:=dm b hb qI fu;intro q hq;rcases Bn q hq with x|⟨_,x⟩
     ·exact⟨(e2 q x).1,λo ho=>(vL q o).2 (.inl ((e2 q x).2 o ho))⟩
     ·exact⟨(e4 q x).1,λo ho=>(vL q o).2 (.inr ((e4 q x).2 o ho))⟩
   ·by_cases nU:a=i
    ·subst nU;by_cases qI:b=0
     ·subst qI;rw[sO,xA];intro q hq;obtain⟨hB,x⟩:=Bp q hq;refine⟨?_,λo ho=> ?_⟩
      ·simp only[V',oi,(QD q x).1,mo,hB];rfl
      ·rcases(vL q o).1 ho with y|y
       ·exact(QD q x).2 o y
       ·exact y
     ·rw[xA,xB b qI (Ne.symm gM)];obtain⟨_,_,_,e4⟩:=dm b hb qI (Ne.symm gM);intro q hq;exact e4 q (Bp q hq).2
    ·rw[xB a Ay nU];obtain⟨e1,e2,e3,e4⟩:=dm a ha Ay nU;by_cases qI:b=0
     ·subst qI;rw[sO];intro q hq;refine⟨?_,λo ho=>((vL q o).1 ho).elim ((e1 q hq).2 o) ((e3 q hq).2 o)⟩;simp only[V',oi,(e1 q hq).1,mo,(e3 q hq).1,ite_self]
     ·by_cases fu:b=i
      ·subst fu;rw[xA];intro q hq;refine⟨?_,(e3 q hq).2⟩;simp only[mi,(e3 q hq).1,ite_self]
      ·rw[xB b qI fu];exact du.dR a b ha hb gM
  ·rw[bJ];refine du.ti.mute (λop ay=>(jR op ay).1) (λop ay=>(jR op ay).2.2.2.1) (λop ay=>((jR op ay).2.2.1).elim (λx=>by rw[x];exact h.pos) (λx=>by rw[x];exact hlt)) (SP _) (λop ay=>(jR op ay).2.2.2.2) (λm hm l hl idx a ha gN so=> ?_) (λm hm l hl idx a ha gN=> ?_) (λidx a ha dl=>⟨λhp m hm=>((du.ti.sp idx a ha dl).1 hp m hm).app u,λhp=>((du.ti.sp idx a ha dl).2 hp).app u⟩)
   ·obtain⟨_,cS,ng⟩:=hl;by_cases h_:m=0
    ·subst h_;rw[sO]at cS;have:gV V l\/gV V₁ l:=by
      cases l with
      |cell a'=>
       rcases cS with x|x
       ·exact(Bn _ x).imp .inl (λy=> .inl y.2)
       ·exact((vL _ _).1 x).imp .inr .inr
      |obj r=>exact(Bn _ cS).imp id (λy=>y.2)
      |_=>exact cS.elim
     rcases this with x|x
     ·exact(du.ti.kr 0 h.pos l ⟨h.pos,by rw[Eu];exact x,ng⟩ idx a ha gN so).app u
     ·exact cr idx (du.ti.kr i hlt l ⟨hlt,by rw[xk];exact x,ng⟩ idx a ha gN so)
    ·by_cases cX:m=i
     ·subst cX;rw[xA]at cS;have:gV V₁ l:=by
       cases l with
       |cell a'=>exact cS.imp (λx=>(Bp _ x).2) id
       |obj r=>exact(Bp _ cS).2
       |_=>exact cS.elim
      exact(du.ti.kr m hm l ⟨hm,by rw[xk];exact this,ng⟩ idx a ha gN so).app u
     ·rw[xB m h_ cX]at cS;exact(du.ti.kr m hm l ⟨hm,cS,ng⟩ idx a ha gN so).app u
   ·obtain⟨_,cS,ng⟩:=hl;by_cases h_:m=0
    ·subst h_;rw[sO]at cS;have:j5 V l\/j5 V₁ l:=by
      cases l with
      |cell a'=>
       have fW:V.ab a'.block a'.off=none:=by
        cases e:V.ab a'.block a'.off with
        |none=>rfl
        |some x=>exact absurd cS.2 ((vL _ _).2 (.inl (by rw[e];simp)))
       have vp:V₁.ab a'.block a'.off=none:=by
        cases e:V₁.ab a'.block a'.off with
        |none=>rfl
        |some x=>exact absurd cS.2 ((vL _ _).2 (.inr (by rw[e];simp)))
       exact(Bn _ cS.1).imp (λx=>⟨x,fW⟩) (λx=>⟨x.2,vp⟩)
      |obj r=>exact(Bn _ cS).imp id (λy=>y.2)
      |_=>exact cS.elim
     rcases this with x|x
     ·exact(du.ti.kw 0 h.pos l ⟨h.pos,by rw[Eu];exact x,ng⟩ idx a ha gN).app u
     ·exact cr idx (du.ti.kw i hlt l ⟨hlt,by rw[xk];exact x,ng⟩ idx a ha gN)
    ·by_cases cX:m=i
     ·subst cX;rw[xA]at cS;have:j5 V₁ l:=by
       cases l with
       |cell a'=>exact⟨(Bp _ cS.1).2,cS.2⟩
       |obj r=>exact(Bp _ cS).2
       |_=>exact cS.elim
      exact(du.ti.kw m hm l ⟨hm,by rw[xk];exact this,ng⟩ idx a ha gN).app u
     ·rw[xB m h_ cX]at cS;exact(du.ti.kw m hm l ⟨hm,cS,ng⟩ idx a ha gN).app u
  ·by_cases h_:m=0
   ·subst h_;rw[sO];have e1:=du.jx 0 h.pos b hb;have e2:=du.jx i hlt b hb;rw[Eu]at e1;rw[xk]at e2;simp[V',oi,e1,mo,e2]
   ·by_cases cX:m=i
    ·subst cX;rw[xA];have e2:=du.jx m hm b hb;rw[xk]at e2;simp[mi,e2]
    ·rw[xB m h_ cX];exact du.jx m hm b hb
 refine Inv.mk' (by rw[aY];exact h.pos) (by rw[bf _ _ (by omega)];exact h.k0) (by rw[vg];exact h.d0) (λm x hm hx=> ?_) ?_ ?_ ?_
 ·show (upd K i k' m).is P p.c p.Wg Im (p.Ss.set j S) (U0 (t++u) m) x;rw[vg];by_cases cX:m=i
  ·subst cX;rw[aN]at hx;cases hx;rw[bA];have dP:j<p.Ss.length:=(SN.1 hS).1;exact⟨by rw[oU];exact hd.symm,hk,S,by simp[Xd dP],rfl⟩
  ·rw[hgo m cX hm]at hx;rw[bf _ _ cX];have A_:=dj m x hm hx;have yK:m<gs.size:=(SR.1 hx).1;have aG:(K m).idx≠some j:=λe=>cX (a8 m i j hm yK hi hlt e yH);cases KW:K m with
   |work j2 h2 V2=>
    rw[KW]at A_ aG;obtain⟨b1,b2,S2,b3,b4⟩:=A_;exact⟨b1,b2,S2,by rw[Uc (λe=>aG (by rw[e];rfl))];exact b3,b4⟩
   |ox j2 h2 V2 V3 g2 v2 z2=>
    rw[KW]at A_ aG;obtain⟨b1,b2,b3,b4,sp2,S2,B2,b5,b6⟩:=A_;exact⟨b1,b2,b3,b4,sp2,S2,B2,by rw[Uc (λe=>aG (by rw[e];rfl))];exact b5,b6⟩
   |_=>rw[KW]at A_;exact A_
 ·rw[aY];refine yB.Ck λm hm=> ?_;have fZ:jf p gs.size ic (upd K i k') m:=hm;show jf p gs.size ic K m;unfold jf at fZ⊢;rw[da,pH,w6]at fZ;exact fZ
 ·show Rest p.Wg (t++u) (upd K i k') ic st;have yP:Rest p.Wg t K ic st:=l9;rw[lH]at yP⊢;exact yP.app (λidx a ha hx=> .inr (hx.app (by obtain⟨op,ay,_⟩:=U1 ha;exact TN ay) λm _ _ hm=> .inl (by rw[da];exact hm))) (λidx a _ ⟨op,ay,_,hx⟩ _=>by rw[(jR op ay).1]at hx;cases hx)
 ·refine⟨a1,a2,a3,by rw[bJ];exact a4,by rw[bJ];exact a5,by simpa using a6,λm hm=> ?_,λm m' q b1 b2 b3 b4 b5 b6=>a8 m m' q b1 (aY▸b2) b3 (aY▸b4) (by rw[<- da];exact b5) (by rw[<- da];exact b6),λq S2 b1 b2=> ?_,?_⟩
  ·by_cases cX:m=i
   ·subst cX;rw[bA];exact⟨C3.1,C3.2.1,C3.2.2.1,C3.2.2.2,λx=>by cases x⟩
   ·rw[bf _ _ cX];exact a7 m hm
  ·rw[aY];by_cases hq:q=j
   ·subst hq;exact⟨i,hi,hlt,by rw[da];exact yH⟩
   ·have Jt:p.Ss[q]?=some S2:=by
     have:=b1;rwa [show ({p with Ss:=p.Ss.set j S}:Phase).Ss=p.Ss.set j S from rfl,Uc (Ne.symm hq)]at this
    obtain⟨m,e1,e2,e3⟩:=a9 q S2 Jt b2;exact⟨m,e1,e2,by rw[da];exact e3⟩
  ·show if p.recv=true then _ else _;rw[if_pos aI];refine⟨⟨C5.1,C5.2.1,C5.2.2.1,C5.2.2.2⟩,c5,by rw[aY];exact c6,s',c7,?_⟩;have hle:(K i).cnt<=sumTo gs.size λi=>(K i).cnt:=WG (f:=λi=>(K i).cnt) hlt;rw[aY];exact c8.anb (by omega) l_ kW (eS _ (Ne.symm a3))
end
section
variable {P:SI}{n0:Nat}{W0:Tq}{V:View}{gs gs':Array SG}{w w':Tq}{sl:Option (Nat×Nat)}{t:Up}{K:Nat->GS}{Im:cE}{ic:Nat}{p:Phase}{st st':Option eB}
theorem Inv.uw(h:Inv P n0 W0 V gs w t K Im ic (some p) st)(aI:p.recv=true){i:Nat}{gi bE:SG}{es:Array Uu}{k':GS}{s':eB}(hi:0<i)(aN:gs[i]?=some gi)(aP:stepG P false gi w=.go bE w' es)
  (hk:k'.is P p.c p.Wg Im p.Ss (deafBehind (U0 t i) es) bE) (qP:mY (k'.view Im) ((K i).view Im))
  (yz:k'.nL=true->i=ic) (da:k'.idx=none) (yG:∀j,(K i).idx=some j->p.Ss[j]?=some []/\∃r,Rel p.Wg (t++Tc i gi.frame.fn gi.frame.place es) i r/\t.size<=r)
  (kD:i=ic\/(K i).idx.isSome=true\/(K i).cnt=1\/(K i).late=1)
  (ce:∀e∈es,∀x,(Tt e).touch?=some x->(rG p.c p.Wg x.loc/\x.kind=.atomic)\/(rG p.c p.Wg x.loc/\x.kind=.said/\i=ic)\/(¬rG p.c p.Wg x.loc/\gV ((K i).view Im) x.loc/\x.write=false))
  (iA:∀e∈es,(Tt e).low w.heap.size) (sf:∀e∈es,∀a,Tt e≠ .mark (.release a))
  (aY:w'.heap.size=w.heap.size) (g_:∀b,b≠p.c->b≠p.Wg->w'.heap[b]?=w.heap[b]?) (ht:w'.tape=w.tape) (ho:w'.os=w.os) (hu:w'.output=w.output)
  (yL:Mode P p.c p.Wg gs.size w' ((gs.map (woken P gi bE w')).setIfInBounds i bE) (t++Tc i gi.frame.fn gi.frame.place es) (upd K i k') ic s')
  (gQ:(∃n,w'.heap[p.c]?=some (.chan 0 #[] false n n false))\/((∀j,0<j->j<gs.size->j≠i->(K j).idx=none)/\∀g,oC gs g p.c->kP ((gs.map (woken P gi bE w')).setIfInBounds i bE) g))
  (l9:Rest p.Wg (t++Tc i gi.frame.fn gi.frame.place es) (upd K i k') ic (some s'))
  (jR:B6 gs.size ((λj=>(upd K i k' j).dc),flag ((gs.map (woken P gi bE w')).setIfInBounds i bE) ic) ((λj=>(K j).dc),flag gs ic)):gH P n0 W0 V gs w sl t K Im ic (some p) st i:=by
 have hlt:i<gs.size:=(SR.1 aN).1;obtain⟨_,hc,_,hp⟩:=h.out;obtain⟨a1,a2,a3,a4,a5,a6,a7,a8,a9,bY⟩:=hp;rw[if_pos aI]at bY;obtain⟨c1,c2,c3,_⟩:=bY;have qZ:bH V Im K i=(K i).view Im:=by simp[bH];omega
 have C4:∀j,j<gs.size->jD p (bH V Im K j):=λj _=>by
  by_cases hj:j=0
  ·subst hj;rw[show bH V Im K 0=V by simp[bH]];exact⟨c1.1,c1.2.1,c1.2.2.1,c1.2.2.2⟩
  ·simp only[bH,hj,if_false];exact h.blind (by omega)
 have Sy:nF (some p) gs.size ic K i:=by
  show jf p gs.size ic K i;unfold jf;rw[if_pos aI];exact⟨hi,hlt,by rcases kD with x|x|x|x;exact .inr (.inl x);exact .inl x;exact .inr (.inr (.inl x));exact .inr (.inr (.inr x))⟩
 refine h.ab7 (st':=some s') hi aN aP hk (λhb=> ?_) (λq hq=>by cases hq;exact gQ.imp id And.left) ?_ l9 ?_ jR ?_
 ·rcases GS.runs hk with x|⟨x,_⟩|⟨_,_,_,_,_,_,_,e⟩|⟨_,_,x⟩
  ·rw[x]at hb;cases hb
  ·rw[x]at hb;cases hb
  ·rw[e]at da;cases da
  ·exact x
 ·rw[OY V Im K hi];have dl:=hc.uw hlt (es:=es) (w':=w') (λe he x hx=>by
    rcases ce e he x hx with⟨x1,x2⟩|⟨x1,x2,x3⟩|⟨x1,x2,x3⟩
    ·exact .inl ⟨x1,x2,Sy⟩
    ·exact .inr (.inl ⟨x1,x2,x3,Sy⟩)
    ·exact .inr (.inr ⟨x1,.inr (.inl ⟨⟨hlt,by rw[qZ];exact x2,x1⟩,x3⟩)⟩)) iA sf (λb=>b=p.c\/b=p.Wg)
   (λb hb=>by
    rcases hb with rfl|rfl
    ·exact⟨a1,λj hj=>⟨(C4 j hj).1,(C4 j hj).2.1⟩⟩
    ·exact⟨a2,λj hj=>⟨(C4 j hj).2.2.1,(C4 j hj).2.2.2⟩⟩) aY (λb hb=>g_ b (λx=>hb (.inl x)) (λx=>hb (.inr x))) ht ho hu gi.frame.fn gi.frame.place
  refine(dl.less (V':=k'.view Im) hlt (by rw[qZ];exact qP)).Ck λm hm=> ?_;have fZ:jf p gs.size ic (upd K i k') m:=hm;show jf p gs.size ic K m;unfold jf at fZ⊢;rw[if_pos aI]at fZ⊢;by_cases cX:m=i
  ·subst cX;exact⟨hi,hlt,by rcases kD with x|x|x|x;exact .inr (.inl x);exact .inl x;exact .inr (.inr (.inl x));exact .inr (.inr (.inr x))⟩
  ·rw[bf _ _ cX]at fZ;exact fZ
 ·refine h.NY (by simp) (by omega) ?_ yz (.inr ⟨da,λj hj=>(yG j hj).1⟩) ?_
  ·have hb:=h.blind hi;exact⟨(qP.1 _).elim id (λx=>x.trans hb.1),λo=>(qP.2.1 _ o).elim id (λx=>x.trans (hb.2.1 o)),(qP.1 _).elim id (λx=>x.trans hb.2.2.1),λo=>(qP.2.1 _ o).elim id (λx=>x.trans (hb.2.2.2 o))⟩
  ·rw[if_pos aI];exact⟨s',rfl,yL⟩
 ·intro g c Li;refine⟨ND hi,λjp _=> ?_⟩;rw[<- Li p rfl]at jp⊢;rcases gQ with x|⟨_,x⟩
  ·exact .inr ⟨NW hi jp x,x⟩
  ·exact .inl (x g jp)
theorem Mode.ana{c Wg N:Nat}{u:Up}{K':Nat->GS}{s:eB}(h:Mode P c Wg N w gs t K ic s)(e1:sumTo N (λi=>(K' i).cnt)=sumTo N λi=>(K i).cnt)(e2:sumTo N (λi=>(K' i).late)=sumTo N λi=>(K i).late)
  (e4:(K' ic).shape=(K ic).shape) (e5:∀i,i<N->((K' i).shape=.load 0\/(K' i).shape=.store 0)->((K i).shape=.load 0\/(K i).shape=.store 0)) (e6:∀i,i<N->(K' i).shape=.mS 0->(K i).shape=.mS 0) (hc:w'.heap[c]?=w.heap[c]?) (hW:w'.heap[Wg]?=w.heap[Wg]?)
  (hr:(∀g,gs[ic]?=some g->g.status=.running)->∀g,gs'[ic]?=some g->g.status=.running):Mode P c Wg N w' gs' (t++u) K' ic s:=by
 have e3:∀st sm,WgAt P Wg w' st sm=WgAt P Wg w st sm:=λst sm=>by unfold WgAt;rw[hW]
 unfold Mode at h⊢;simp only[e1,e2,e3,e4,hc];rcases h with h|h|h|h|h|h|h
 ·exact .inl h
 ·exact .inr (.inl h)
 ·exact .inr (.inr (.inl ⟨h.1,h.2.1,h.2.2.1,h.2.2.2.1,h.2.2.2.2.1,λi hi x=>h.2.2.2.2.2.1 i hi (e5 i hi x),λi hi x=>h.2.2.2.2.2.2 i hi (e6 i hi x)⟩))
 ·exact .inr (.inr (.inr (.inl ⟨h.1,h.2.1,h.2.2.1,h.2.2.2.1,h.2.2.2.2.1,hr h.2.2.2.2.2.1,h.2.2.2.2.2.2⟩)))
 ·exact .inr (.inr (.inr (.inr (.inl h))))
 ·exact .inr (.inr (.inr (.inr (.inr (.inl h)))))
 ·obtain⟨⟨p,n,a,b,c',d⟩,e⟩:=h;exact .inr (.inr (.inr (.inr (.inr (.inr ⟨⟨p,n,a,by rw[X8 (We b)];exact b,(Wu (We b)).2 c',d⟩,e⟩)))))
theorem Mode.waits{c Wg N:Nat}{s:eB}(h:Mode P c Wg N w gs t K ic s):(K ic).cnt=0/\(K ic).late=0:=by
 rw[<- GS.nM,<- GS.mO];rcases h with h|h|h|h|h|h|h
 ·rcases h.2.2.2.2.2 with⟨_,e,_⟩|⟨_,e,_⟩<;>rw[e]<;>exact⟨rfl,rfl⟩
 ·rcases h.2.2.2.2.2.2 with e|e<;>rw[e]<;>exact⟨rfl,rfl⟩
 ·rcases h.2.2.2.2.1 with e|e<;>rw[e]<;>exact⟨rfl,rfl⟩
 ·rcases h.2.2.2.2.2.2 with e|e<;>rw[e]<;>exact⟨rfl,rfl⟩
 ·rcases h.2.2.2.2.2 with e|e<;>rw[e]<;>exact⟨rfl,rfl⟩
 ·rcases h.2.2.2.2 with e|e<;>rw[e]<;>exact⟨rfl,rfl⟩
 ·rw[h.2.2.2];exact⟨rfl,rfl⟩
theorem zk{i:Nat}{k':GS}{a b:Nat}(hlt:i<gs.size)(hr:rE k'.dc (K i).dc):B6 gs.size ((λj=>(upd K i k' j).dc),a) ((λj=>(K j).dc),b):=
 .inl ⟨i,hlt,by simpa only[bA]using hr,λj hj=>by show (upd K i k' j).dc=(K j).dc;rw[bf _ _ hj]⟩
theorem Inv.mode(h:Inv P n0 W0 V gs w t K Im ic (some p) st)(aI:p.recv=true):∃s,st=some s/\0<ic/\ic<gs.size/\Mode P p.c p.Wg gs.size w gs t K ic s:=by
 have hx:=h.phase.2.2.2.2.2.2.2.2.2;rw[if_pos aI]at hx;obtain⟨_,h1,h2,s,h3,h4⟩:=hx;exact⟨s,h3,h1,h2,h4⟩
theorem ofEvents_one{i:Nat}{fn:TS}{pos:String}{e:Uu}:Tc i fn pos #[e]=#[{g:=i,fn,pos,act:=.ofEvent e}]:=by simp[Tc]
theorem Qp{t u:Up}{g:Nat}:(t++u).deaf g t.size=U0 t g:=deaf_old (SP _)
theorem HD(U:View):mY noView U:=⟨λ_=> .inl rfl,λ_ _=> .inl rfl,λb hb=>absurd rfl hb⟩
theorem Inv.release(h:Inv P n0 W0 V gs w t K Im ic (some p) st)(aI:p.recv=true){i j:Nat}{gi:SG}{hh:Ht}{Vi V₁:View}{c Wg:Nat}(hi:0<i)(aN:gs[i]?=some gi)(hK:K i=.work j hh Vi)(hg:d_ Vi V₁)
  (hr:V₁.role=.work c Wg []) (hd:V₁.deaf=0) (hf:Fo P Wg gi):gH P n0 W0 V gs w sl t K Im ic (some p) st i:=by
 have hlt:i<gs.size:=(SR.1 aN).1;have dj:=h.is i gi hi aN;simp only[hK,GS.is]at dj;obtain⟨bB,_,S,hS,jq⟩:=dj;rw[hg.role,jq]at hr;cases hr;have gY:(K i).cnt=1:=by rw[hK];rfl
 obtain⟨⟨n,gQ⟩,lH⟩:=h.counted hi hlt gY;obtain⟨s,hs,gA,iX,hm⟩:=h.mode aI;rw[lH]at hs;cases hs;obtain⟨bL,g',lI,m,cy⟩:=hf;have aG:i≠ic:=λe=>by have:=(Mode.waits hm).1;rw[<- e,gY]at this;cases this
 have aS:U0 t i=0:=by rw[bB,<- hg.deaf,hd]
 have sg:Rel p.Wg (t++Tc i gi.frame.fn gi.frame.place #[kA (.releaseMerge (ej p.Wg))]) i t.size:=by
  rw[ofEvents_one];have e:(#[({g:=i,fn:=gi.frame.fn,pos:=gi.frame.place,act:=.ofEvent (kA (.releaseMerge (ej p.Wg)))}:Wi)]:Up)[0]?=some _:=rfl;have g0:=rQ (t:=t) e;exact⟨aj' g0,by simp[WE,g0],heard_new e rfl (by rw[show t.size+0=t.size from rfl,Qp];exact aS)⟩
 have n4:∀e∈#[kA (.releaseMerge (ej p.Wg))],e=kA (.releaseMerge (ej p.Wg)):=λe he=>by simpa using he
 refine h.uw aI (k':=.add m) (s':=.early) hi aN (lI w) ?_ (by rw[hK];exact HD _) (λx=>by cases x) rfl (λj' iI=> ?_) (.inr (.inr (.inl gY))) (λe he x hx=> ?_) (λe he=> ?_) (λe he a=> ?_) rfl (λ_ _ _=>rfl) rfl rfl rfl ?_ (.inl ⟨n,gQ⟩) ?_ (zk hlt ?_)
 ·show cV P (BV P p.Wg) m _ g';rw[aS];exact cy
 ·rw[hK]at iI;cases iI;exact⟨hS,t.size,sg,SP _⟩
 ·rw[n4 e he]at hx;cases hx
 ·rw[n4 e he];exact h.low.2
 ·rw[n4 e he];simp[kA,Tt]
 ·refine hm.ana (lQ K _ GS.cnt (by rw[gY];rfl)) (lQ K _ GS.late (by rw[hK];rfl)) (by rw[bf _ _ (Ne.symm aG)]) (λm hm=> ?_) (λm hm=> ?_) rfl rfl (ac2 hlt ?_)
  ·by_cases cX:m=i
   ·subst cX;rw[bA];intro x;rcases x with x|x<;>cases x
   ·rw[bf _ _ cX];exact id
  ·by_cases cX:m=i
   ·subst cX;rw[bA];intro x;cases x
   ·rw[bf _ _ cX];exact id
  ·exact cV.running (λd g x=>x.2.1) cy
 ·have hr:Rest p.Wg t K ic st:=h.out.2.2.1;rw[lH]at hr;refine hr.app (λidx a ha hx=> .inr (hx.app (by obtain⟨op,ay,_⟩:=U1 ha;exact TN ay) λm wW _ hm=> ?_)) (λidx a _ ⟨op,ay,_,hx⟩ _=> ?_)
  ·by_cases cX:m=i
   ·subst cX;exact .inr ⟨t.size,sg,by obtain⟨op,ay,_⟩:=U1 ha;exact Nat.le_of_lt (TN ay)⟩
   ·rw[bf _ _ cX];exact .inl hm
  ·rw[ofEvents_one]at ay;simp only[TO,SK,SZ,or_false]at ay;subst ay;cases hx
 ·rw[hK];refine .inl ?_;simp only[GS.dc,jq];omega
def Atom (a:Va)(es:Array Uu):Prop:=es=#[ji a]\/es=#[ly a]\/es=#[ji a,ly a]\/es=Bw a
theorem Atom.mem{a:Va}{es:Array Uu}(h:Atom a es){e:Uu}(he:e∈es):e=ji a\/e=ly a\/e=kA .disable\/e=kA .enable:=by
 rcases h with rfl|rfl|rfl|rfl<;>simp only[Bw,TO,SK,SZ,or_false]at he
 ·exact .inl he
 ·exact .inr (.inl he)
 ·exact he.imp id .inl
 ·rcases he with x|x|x|x
  ·exact .inr (.inr (.inl x))
  ·exact .inl x
  ·exact .inr (.inl x)
  ·exact .inr (.inr (.inr x))
theorem Atom.behind{a:Va}{es:Array Uu}(h:Atom a es):deafBehind 1 es=1:=by
 rcases h with rfl|rfl|rfl|rfl<;>rfl
theorem Atom.touch{a:Va}{es:Array Uu}(h:Atom a es){e:Uu}(he:e∈es){x:YK}(hx:(Tt e).touch?=some x):x.loc=.cell a/\x.kind=.atomic:=by
 rcases h.mem he with rfl|rfl|rfl|rfl
 ·cases hx;exact⟨rfl,rfl⟩
 ·cases hx;exact⟨rfl,rfl⟩
 ·cases hx
 ·cases hx
theorem Atom.low{a:Va}{es:Array Uu}(h:Atom a es){n:Nat}(ha:a.block<n){e:Uu}(he:e∈es):(Tt e).low n:=by
 rcases h.mem he with rfl|rfl|rfl|rfl
 ·exact ha
 ·exact ha
 ·trivial
 ·trivial
theorem Atom.norel{a:Va}{es:Array Uu}(h:Atom a es){e:Uu}(he:e∈es)(b:Va):Tt e≠ .mark (.release b):=by
 rcases h.mem he with rfl|rfl|rfl|rfl<;>simp[ji,ly,kA,Tt]
theorem Atom.atm{a:Va}{es:Array Uu}(h:Atom a es){i:Nat}{fn:TS}{pos:String}(hd:U0 t i=1){idx:Nat}{op:Wi}{x:YK}(da:t.size<=idx)(ay:(t++Tc i fn pos es)[idx]?=some op)(hx:op.act.touch?=some x):
  ¬(t++Tc i fn pos es).heard idx:=by
 obtain⟨k,rfl⟩:∃k,idx=t.size+k:=⟨idx-t.size,by omega⟩;have tW:(Tc i fn pos es)[k]?=some op:=by rw[X9 (by omega)]at ay;simpa using ay
 have aN:op.g=i:=by obtain⟨e,_,rfl⟩:=TQ (XW tW);rfl
 rintro⟨g,hg,hz⟩
 have:g=i:=by simp[WE,ay,aN]at hg;exact hg.symm
 subst this;have BC:∀y:Wi,y.act=Tt (ji a)\/y.act=Tt (ly a)->still y.act:=λy hy=>by rcases hy with e|e<;>rw[e]<;>exact⟨by simp[ji,ly,Tt],by simp[ji,ly,Tt]⟩
 rcases h with rfl|rfl|rfl|rfl
 ·have:=uU (t:=t) (u:=Tc g fn pos #[ji a]) (g:=g) (λop ay=>by obtain⟨e,he,rfl⟩:=TQ ay;simp only[TO,SK,SZ,or_false]at he;subst he;exact BC _ (.inl rfl)) (k:=k) (by have:=TN tW;omega);omega
 ·have:=uU (t:=t) (u:=Tc g fn pos #[ly a]) (g:=g) (λop ay=>by obtain⟨e,he,rfl⟩:=TQ ay;simp only[TO,SK,SZ,or_false]at he;subst he;exact BC _ (.inr rfl)) (k:=k) (by have:=TN tW;omega);omega
 ·have:=uU (t:=t) (u:=Tc g fn pos #[ji a,ly a]) (g:=g) (λop ay=>by obtain⟨e,he,rfl⟩:=TQ ay;simp only[TO,SK,SZ,or_false]at he;rcases he with rfl|rfl;exact BC _ (.inl rfl);exact BC _ (.inr rfl)) (k:=k) (by have:=TN tW;omega);omega
 ·
  have eu:Tc g fn pos (Bw a)=#[{g,fn,pos,act:=.mark .disable},{g,fn,pos,act:=.ofEvent (ji a)},{g,fn,pos,act:=.ofEvent (ly a)},{g,fn,pos,act:=.mark .enable}]:=by simp[Tc,Bw,kA,Tt]
  rw[eu]at tW hz;have d0:(t++#[({g,fn,pos,act:=.mark .disable}:Wi),{g,fn,pos,act:=.ofEvent (ji a)},{g,fn,pos,act:=.ofEvent (ly a)},{g,fn,pos,act:=.mark .enable}]).deaf g t.size=1:=by rw[Qp];exact hd
  have d1:=af_ (g:=g) (rQ (t:=t) (show (#[({g,fn,pos,act:=.mark .disable}:Wi),{g,fn,pos,act:=.ofEvent (ji a)},{g,fn,pos,act:=.ofEvent (ly a)},{g,fn,pos,act:=.mark .enable}]:Up)[0]?=some _ from rfl));have d2:=af_ (g:=g) (rQ (t:=t) (show (#[({g,fn,pos,act:=.mark .disable}:Wi),{g,fn,pos,act:=.ofEvent (ji a)},{g,fn,pos,act:=.ofEvent (ly a)},{g,fn,pos,act:=.mark .enable}]:Up)[1]?=some _ from rfl));have d3:=af_ (g:=g) (rQ (t:=t) (show (#[({g,fn,pos,act:=.mark .disable}:Wi),{g,fn,pos,act:=.ofEvent (ji a)},{g,fn,pos,act:=.ofEvent (ly a)},{g,fn,pos,act:=.mark .enable}]:Up)[2]?=some _ from rfl));rw[JI (BC _ (.inl rfl))]at d2;rw[JI (BC _ (.inr rfl))]at d3;simp only[UJ]at d1;rw[d0]at d1;have d1:=d1.trans (show deafStep g 1 {g,fn,pos,act:=.mark .disable}=2 by simp[deafStep]);have hk:k<4:=by have:=TN tW;simpa using this
  match k,hk with
  |0,_=>simp at tW;subst tW;cases hx
  |1,_=>rw[d1]at hz;omega
  |2,_=>rw[show t.size+2=t.size+1+1 from rfl,d2,d1]at hz;omega
  |3,_=>simp at tW;subst tW;cases hx
theorem Rest.atom{Wg:Nat}{s:eB}(hr:Rest Wg t K ic (some s)){a:Va}{es:Array Uu}(h:Atom a es){i:Nat}{fn:TS}{pos:String}(hd:U0 t i=1){K':Nat->GS}(da:∀m,(K' m).idx=(K m).idx):Rest Wg (t++Tc i fn pos es) K' ic (some s):=by
 refine hr.app (λidx a ha hx=> .inr (hx.app (by obtain⟨op,ay,_⟩:=U1 ha;exact TN ay) λm _ _ hm=> .inl (by rw[da];exact hm))) (λidx x hi ⟨op,ay,yG,hx⟩ _=> .inr (.inl ⟨?_,h.atm hd hi yG hx⟩));obtain⟨e,he,rfl⟩:=TQ ay;exact(h.touch he hx).2
theorem WgAt.Ir{Wg:Nat}{a b:Int}(h:WgAt P Wg w a b)(v:Int):WgAt P Wg (w.setCell (ej Wg) (.int .u64 v)) v b:=by
 unfold WgAt at h⊢;unfold Xm;rw[Wn];simp[ej,h,wgBlock]
theorem WgAt.ads{Wg:Nat}{a b:Int}(h:WgAt P Wg w a b)(v:Int):WgAt P Wg (w.setCell (pj Wg) (.int .u32 v)) a v:=by
 unfold WgAt at h⊢;unfold Xm;rw[Wn];simp[pj,h,wgBlock]
theorem WgAt.inj{Wg:Nat}{a b a' b':Int}(h:WgAt P Wg w a b)(k:WgAt P Wg w a' b'):a=a'/\b=b':=by
 unfold WgAt at h k;rw[h]at k;simp[wgBlock]at k;exact k
theorem Inv.FJ(h:Inv P n0 W0 V gs w t K Im ic (some p) st)(aI:p.recv=true){i:Nat}{gi bE:SG}{es:Array Uu}{k':GS}{s:eB}{a:Va}(hs:st=some s)(hi:0<i)(aN:gs[i]?=some gi)(aP:stepG P false gi w=.go bE w' es)(hd:U0 t i=1)
  (ha:Atom a es) (Az:a=ej p.Wg\/a=pj p.Wg) (oe:w'=w\/∃x,w'=w.setCell a x) (hk:k'.is P p.c p.Wg Im p.Ss 1 bE) (qP:mY (k'.view Im) ((K i).view Im)) (yz:k'.nL=true->i=ic) (da:k'.idx=none) (vq:(K i).idx=none)
  (kD:i=ic\/(K i).cnt=1\/(K i).late=1) (gQ:∃n,w.heap[p.c]?=some (.chan 0 #[] false n n false))
  (yL:Mode P p.c p.Wg gs.size w' ((gs.map (woken P gi bE w')).setIfInBounds i bE) (t++Tc i gi.frame.fn gi.frame.place es) (upd K i k') ic s) (vD:rE k'.dc (K i).dc):gH P n0 W0 V gs w sl t K Im ic (some p) st i:=by
 have hlt:i<gs.size:=(SR.1 aN).1;have wP:a.block=p.Wg:=by rcases Az with rfl|rfl<;>rfl
 have rX:p.c≠p.Wg:=h.phase.2.2.1;have g_:∀b,b≠p.Wg->w'.heap[b]?=w.heap[b]?:=λb hb=>by
  rcases oe with rfl|⟨x,rfl⟩
  ·rfl
  ·exact wU _ _ _ (by rw[wP];exact Ne.symm hb)
 have aY:w'.heap.size=w.heap.size:=by rcases oe with rfl|⟨x,rfl⟩;rfl;exact EJ _ _ _
 refine h.uw aI hi aN aP (by rw[hd,ha.behind];exact hk) qP yz da (λj hj=>by rw[vq]at hj;cases hj) (kD.imp id .inr) (λe he x hx=> .inl ?_) (λe he=>ha.low (by rw[wP];exact h.low.2) he) (λe he b=>ha.norel he b) aY (λb _ hb=>g_ b hb)
  (by rcases oe with rfl|⟨x,rfl⟩<;>rfl) (by rcases oe with rfl|⟨x,rfl⟩<;>rfl) (by rcases oe with rfl|⟨x,rfl⟩<;>rfl) yL (.inl (by rw[g_ _ rX];exact gQ)) ?_ (zk hlt vD)
 ·have:=ha.touch he hx;exact⟨by rw[this.1];exact wP,this.2⟩
 ·have hr:Rest p.Wg t K ic st:=h.out.2.2.1;rw[hs]at hr;exact hr.atom ha hd λm=>by
   by_cases hm:m=i
   ·subst hm;rw[bA,da,vq]
   ·rw[bf _ _ hm]
theorem Inv.afH(h:Inv P n0 W0 V gs w t K Im ic (some p) st)(aI:p.recv=true){i n:Nat}{gi:SG}(hi:0<i)(aN:gs[i]?=some gi)(hK:K i=.add n)(jS:BV P p.Wg (U0 t i) gi):gH P n0 W0 V gs w sl t K Im ic (some p) st i:=by
 have hlt:i<gs.size:=(SR.1 aN).1;obtain⟨s,hs,gA,iX,hm⟩:=h.mode aI;have gY:(K i).cnt=1:=by rw[hK];rfl
 have fj:(K i).late=0:=by rw[hK];rfl
 have vq:(K i).idx=none:=by rw[hK];rfl
 have gQ:=(h.counted hi hlt gY).1;have aG:ic≠i:=λe=>by have:=(Mode.waits hm).1;rw[e,gY]at this;cases this
 obtain⟨hd,bL,Hc⟩:=jS;have hle:(K i).cnt<=sumTo gs.size λi=>(K i).cnt:=WG (f:=λi=>(K i).cnt) hlt;have rX:p.c≠p.Wg:=h.phase.2.2.1;have hq:∀(k':GS),sumTo gs.size (λa=>(upd K i k' a).cnt)+(K i).cnt=sumTo gs.size (λa=>(K a).cnt)+k'.cnt:=λk'=>BD K k' GS.cnt hlt;have tZ:∀(k':GS),sumTo gs.size (λa=>(upd K i k' a).late)+(K i).late=sumTo gs.size (λa=>(K a).late)+k'.late:=λk'=>BD K k' GS.late hlt;have qP:∀k':GS,k'.view Im=noView->mY (k'.view Im) ((K i).view Im):=λk' e=>by rw[e];exact HD _
 have leave:∀(wt v:Nat),wt<=1->v+1=(sumTo gs.size λi=>(K i).cnt)->v<4->¬(v=0/\wt=1)->s=.early->(sumTo gs.size λi=>(K i).late)=0->WgAt P p.Wg w (((v+1:Nat):Int)* KK+wt) 0->
   ((wt=0/\((∃k,(K ic).shape=.head k 0/\v<k)\/(∃u,(K ic).shape=.mA u 0/\v<=u/\0<u)))\/(wt=1/\((K ic).shape=.said 0\/(K ic).shape=.iy 0)))->gH P n0 W0 V gs w sl t K Im ic (some p) st i:=by
  intro wt v vI hv Hi fD hse auO hW ba;obtain⟨g',aP,_,ie⟩:=Hc v wt vI Hi;obtain⟨q,ie⟩:=ie fD;have DC:=hq (.gone q);have Dz:=tZ (.gone q);simp only[gY,fj]at DC Dz;rw[show (GS.gone q).cnt=0 from rfl]at DC;rw[show (GS.gone q).late=0 from rfl]at Dz;refine h.FJ aI (k':=.gone q) (a:=ej p.Wg) hs hi aN (aP w hW) hd (.inr (.inr (.inl rfl))) (.inl rfl) (.inr ⟨_,rfl⟩) ie (qP _ rfl) (λx=>by cases x) rfl vq (.inr (.inl gY)) gQ ?_ (by rw[hK];exact .inl (by simp[GS.dc]));have wK:=hW.Ir ((v:Int)* KK+wt);unfold Mode;simp only[bf _ _ aG];have JZ:sumTo gs.size (λa=>(upd K i (.gone q) a).cnt)=v:=by omega
  have J5:sumTo gs.size (λa=>(upd K i (.gone q) a).late)=0:=by omega
  simp only[JZ,J5];have ho:∃n,(w.setCell (ej p.Wg) (.int .u64 ((v:Int)* KK+wt))).heap[p.c]?=some (.chan 0 #[] false n n false):=by
   obtain⟨n,hn⟩:=gQ;exact⟨n,by rw[wU _ _ _ (Ne.symm rX)];exact hn⟩
  rcases ba with⟨rfl,ba⟩|⟨rfl,ba⟩
  ·exact .inl ⟨ho,hse,trivial,by omega,by simpa using wK,ba⟩
  ·exact .inr (.inl ⟨ho,hse,trivial,by omega,by omega,by simpa using wK,ba⟩)
 unfold Mode at hm;rcases hm with m|m|m|m|m|m|m
 ·obtain⟨m1,m2,m3,m4,m5,m6⟩:=m;refine leave 0 ((sumTo gs.size λi=>(K i).cnt)-1) (by omega) (by omega) (by omega) (by omega) m2 m3 ?_ (.inl ⟨rfl,?_⟩)
  ·rw[show (sumTo gs.size λi=>(K i).cnt)-1+1=(sumTo gs.size λi=>(K i).cnt) by omega];simpa using m5
  ·rcases m6 with⟨k,e1,e2⟩|⟨u,e1,e2,e3⟩
   ·exact .inl ⟨k,e1,by omega⟩
   ·exact .inr ⟨u,e1,by omega,e3⟩
 ·obtain⟨m1,m2,m3,m4,m5,m6,m7⟩:=m;by_cases hv:(sumTo gs.size λi=>(K i).cnt)=1
  ·
   obtain⟨g',aP,fw,_⟩:=Hc 0 1 (by omega) (by omega);obtain⟨n',fw⟩:=fw ⟨rfl,rfl⟩;have DC:=hq (.load n');have Dz:=tZ (.load n');simp only[gY,fj]at DC Dz;rw[show (GS.load n').cnt=0 from rfl]at DC;rw[show (GS.load n').late=1 from rfl]at Dz;rw[hv]at m6;have hW:WgAt P p.Wg w (((0+1:Nat):Int)* KK+(1:Nat)) 0:=(by simpa using m6);refine h.FJ aI (k':=.load n') (a:=ej p.Wg) hs hi aN (aP w hW) hd (.inr (.inr (.inl rfl))) (.inl rfl) (.inr ⟨_,rfl⟩) fw (qP _ rfl) (λx=>by cases x) rfl vq (.inr (.inl gY)) gQ ?_ (by rw[hK];exact .inl (by simp[GS.dc]));have wK:=hW.Ir (((0:Nat):Int)* KK+(1:Nat));unfold Mode;simp only[bf _ _ aG];have JZ:sumTo gs.size (λa=>(upd K i (.load n') a).cnt)=0:=(by omega);have J5:sumTo gs.size (λa=>(upd K i (.load n') a).late)=1:=(by omega);simp only[JZ,J5];have ho:∃n,(w.setCell (ej p.Wg) (.int .u64 (((0:Nat):Int)* KK+(1:Nat)))).heap[p.c]?=some (.chan 0 #[] false n n false):=by
    obtain⟨n,hn⟩:=gQ;exact⟨n,by rw[wU _ _ _ (Ne.symm rX)];exact hn⟩
   refine .inr (.inr (.inl ⟨ho,m2,trivial,trivial,m7,λ_ _ _=>by simpa using wK,λm hm qV=> ?_⟩));exfalso;have cX:m≠i:=λe=>(by subst e;rw[bA]at qV;cases qV);rw[bf _ _ cX]at qV;have hlm:(K m).late<=sumTo gs.size λi=>(K i).late:=WG (f:=λi=>(K i).late) hm;rw[m3,<- GS.mO,qV]at hlm;simp[GS.late]at hlm
  ·refine leave 1 ((sumTo gs.size λi=>(K i).cnt)-1) (by omega) (by omega) (by omega) (by omega) m2 m3 ?_ (.inr ⟨rfl,m7⟩);rw[show (sumTo gs.size λi=>(K i).cnt)-1+1=(sumTo gs.size λi=>(K i).cnt) by omega];simpa using m6
 ·have:=m.2.2.2.1;omega
 ·have:=m.2.2.2.1;omega
 ·have:=m.2.2.2.1;omega
 ·have:=m.2.2.2.1;omega
 ·have:=m.2.2.1;omega
theorem Mode.D_{c Wg N:Nat}{s:eB}(hm:Mode P c Wg N w gs t K ic s){i:Nat}(hlt:i<N)(fj:(K i).late=1):
  (∃n,w.heap[c]?=some (.chan 0 #[] false n n false))/\s=.early/\(sumTo N λi=>(K i).late)=1/\(sumTo N λi=>(K i).cnt)=0/\((K ic).shape=.said 0\/(K ic).shape=.iy 0)/\
  (((K i).shape=.load 0\/(K i).shape=.store 0)->WgAt P Wg w 1 0)/\((K i).shape=.mS 0->WgAt P Wg w 0 0):=by
 have hle:(K i).late<=sumTo N λi=>(K i).late:=WG (f:=λi=>(K i).late) hlt;unfold Mode at hm;rcases hm with m|m|m|m|m|m|m
 ·have:=m.2.2.1;omega
 ·have:=m.2.2.1;omega
 ·exact⟨m.1,m.2.1,m.2.2.1,m.2.2.2.1,m.2.2.2.2.1,m.2.2.2.2.2.1 i hlt,m.2.2.2.2.2.2 i hlt⟩
 ·have:=m.2.2.1;omega
 ·have:=m.2.2.1;omega
 ·have:=m.2.2.1;omega
 ·have:=m.2.1;omega
theorem acv{N:Nat}(h:(sumTo N λi=>(K i).late)=1){i m:Nat}(hi:i<N)(hm:m<N)(aG:m≠i)(fj:(K i).late=1):(K m).late=0:=by
 have:=BD K (.gone 0) GS.late hi;have h2:((upd K i (.gone 0)) m).late<=sumTo N λa=>(upd K i (.gone 0) a).late:=WG (f:=λa=>(upd K i (.gone 0) a).late) hm;rw[bf _ _ aG]at h2;simp only[fj,h,show (GS.gone 0).late=0 from rfl]at this;omega
theorem Inv.Nn(h:Inv P n0 W0 V gs w t K Im ic (some p) st)(aI:p.recv=true){i:Nat}{gi bE:SG}{es:Array Uu}{k':GS}{a:Va}(hi:0<i)(aN:gs[i]?=some gi)(aP:stepG P false gi w=.go bE w' es)(hd:U0 t i=1)
  (ha:Atom a es) (Az:a=ej p.Wg\/a=pj p.Wg) (oe:w'=w\/∃x,w'=w.setCell a x) (hk:k'.is P p.c p.Wg Im p.Ss 1 bE) (hv:k'.view Im=noView) (da:k'.idx=none) (vq:(K i).idx=none) (pH:(K i).cnt=0) (ak2:k'.cnt=0) (yz:k'.nL=false) (fj:(K i).late=1)
  (tN:(k'.late=1/\((k'.shape=.load 0\/k'.shape=.store 0)->WgAt P p.Wg w' 1 0)/\(k'.shape=.mS 0->WgAt P p.Wg w' 0 0))\/
   (k'.late=0/\WgAt P p.Wg w' 0 1/\∀g,((gs.map (woken P gi bE w')).setIfInBounds i bE)[ic]?=some g->g.status=.running)) (vD:rE k'.dc (K i).dc):gH P n0 W0 V gs w sl t K Im ic (some p) st i:=by
 have hlt:i<gs.size:=(SR.1 aN).1;obtain⟨s,hs,gA,iX,hm⟩:=h.mode aI;obtain⟨m1,m2,m3,m4,m5,m6,m7⟩:=hm.D_ hlt fj;have aG:ic≠i:=λe=>by have:=(Mode.waits hm).2;rw[e,fj]at this;cases this
 have rX:p.c≠p.Wg:=h.phase.2.2.1;have wP:a.block=p.Wg:=by rcases Az with rfl|rfl<;>rfl
 have g_:∀b,b≠p.Wg->w'.heap[b]?=w.heap[b]?:=λb hb=>by
  rcases oe with rfl|⟨x,rfl⟩
  ·rfl
  ·exact wU _ _ _ (by rw[wP];exact Ne.symm hb)
 refine h.FJ aI hs hi aN aP hd ha Az oe hk (by rw[hv];exact HD _) (λx=>by rw[yz]at x;cases x) da vq (.inr (.inr fj)) m1 ?_ vD;have e1:sumTo gs.size (λa=>(upd K i k' a).cnt)=0:=by have:=BD K k' GS.cnt hlt;simp only[pH,ak2,m4]at this;omega
 unfold Mode;simp only[bf _ _ aG,e1,g_ _ rX];rcases tN with⟨x1,x2,x3⟩|⟨x1,x2,x3⟩
 ·have e2:sumTo gs.size (λa=>(upd K i k' a).late)=1:=by have:=BD K k' GS.late hlt;simp only[fj,x1,m3]at this;omega
  refine .inr (.inr (.inl ⟨m1,m2,e2,trivial,m5,λm hm dl=> ?_,λm hm dl=> ?_⟩))
  ·by_cases cX:m=i
   ·subst cX;rw[bA]at dl;exact x2 dl
   ·rw[bf _ _ cX]at dl;have:=acv m3 hlt hm cX fj;rw[<- GS.mO]at this;rcases dl with e|e<;>rw[e]at this<;>cases this
  ·by_cases cX:m=i
   ·subst cX;rw[bA]at dl;exact x3 dl
   ·rw[bf _ _ cX]at dl;have:=acv m3 hlt hm cX fj;rw[<- GS.mO,dl]at this;cases this
 ·have e2:sumTo gs.size (λa=>(upd K i k' a).late)=0:=by have:=BD K k' GS.late hlt;simp only[fj,x1,m3]at this;omega
  exact .inr (.inr (.inr (.inl ⟨m1,m2,e2,trivial,x2,x3,m5⟩)))
theorem Inv.anZ(h:Inv P n0 W0 V gs w t K Im ic (some p) st)(aI:p.recv=true){i n:Nat}{gi:SG}(hi:0<i)(aN:gs[i]?=some gi)(hK:K i=.load n)(jS:Fe P p.Wg (U0 t i) gi):gH P n0 W0 V gs w sl t K Im ic (some p) st i:=by
 have hlt:i<gs.size:=(SR.1 aN).1;obtain⟨s,hs,gA,iX,hm⟩:=h.mode aI;have fj:(K i).late=1:=by rw[hK];rfl
 obtain⟨m1,m2,m3,m4,m5,m6,m7⟩:=hm.D_ hlt fj;obtain⟨hd,bL,g',aP,n',cy⟩:=jS;have hW:=m6 (by rw[hK];exact .inl rfl);exact h.Nn aI (k':=.store n') (a:=ej p.Wg) hi aN (aP w hW) hd (.inl rfl) (.inl rfl) (.inl rfl) cy rfl rfl (by rw[hK];rfl) (by rw[hK];rfl) rfl rfl fj (.inl ⟨rfl,λ_=>hW,λx=>by cases x⟩) (by rw[hK];exact .inl (by simp[GS.dc]))
theorem Inv.asn(h:Inv P n0 W0 V gs w t K Im ic (some p) st)(aI:p.recv=true){i n:Nat}{gi:SG}(hi:0<i)(aN:gs[i]?=some gi)(hK:K i=.store n)(jS:Fg P p.Wg (U0 t i) gi):gH P n0 W0 V gs w sl t K Im ic (some p) st i:=by
 have hlt:i<gs.size:=(SR.1 aN).1;obtain⟨s,hs,gA,iX,hm⟩:=h.mode aI;have fj:(K i).late=1:=by rw[hK];rfl
 obtain⟨m1,m2,m3,m4,m5,m6,m7⟩:=hm.D_ hlt fj;obtain⟨hd,bL,g',aP,n',cy⟩:=jS;have hW:=m6 (by rw[hK];exact .inr rfl);exact h.Nn aI (k':=.mS n') (a:=ej p.Wg) hi aN (aP w hW) hd (.inr (.inl rfl)) (.inl rfl) (.inr ⟨_,rfl⟩) cy rfl rfl (by rw[hK];rfl) (by rw[hK];rfl) rfl rfl fj (.inl ⟨rfl,λx=>(x.elim (λy=>by cases y) (λy=>by cases y)),λ_=>hW.Ir 0⟩) (by rw[hK];exact .inl (by simp[GS.dc]))
theorem Inv.ars(h:Inv P n0 W0 V gs w t K Im ic (some p) st)(aI:p.recv=true){i n:Nat}{gi:SG}(hi:0<i)(aN:gs[i]?=some gi)(hK:K i=.mS n)(jS:Ff P p.Wg (U0 t i) gi):gH P n0 W0 V gs w sl t K Im ic (some p) st i:=by
 have hlt:i<gs.size:=(SR.1 aN).1;obtain⟨s,hs,gA,iX,hm⟩:=h.mode aI;have fj:(K i).late=1:=by rw[hK];rfl
 obtain⟨m1,m2,m3,m4,m5,m6,m7⟩:=hm.D_ hlt fj;obtain⟨hd,bL,L1,g',aP,q,ie⟩:=jS;have hW:=m7 (by rw[hK];rfl);have aG:ic≠i:=λe=>by have:=(Mode.waits hm).2;rw[e,fj]at this;cases this
 refine h.Nn aI (k':=.gone q) (a:=pj p.Wg) hi aN (aP w hW) hd (.inr (.inr (.inr rfl))) (.inr rfl) (.inr ⟨_,rfl⟩) ie rfl rfl (by rw[hK];rfl) (by rw[hK];rfl) rfl rfl fj (.inr ⟨rfl,hW.ads 1,λg hg=> ?_⟩) (by rw[hK];exact .inl (by simp[GS.dc]));rcases getElem?_next hlt hg with⟨e,_⟩|⟨_,y,hy,rfl⟩
 ·exact absurd e aG
 ·have yI:=h.is ic y gA hy;simp only at yI;have dl:(∃n,K ic=.said n)\/∃n,K ic=.iy n:=by
   cases yo:K ic<;>rw[yo]at m5<;>simp[GS.shape]at m5
   ·exact .inl ⟨_,rfl⟩
   ·exact .inr ⟨_,rfl⟩
  rcases dl with⟨n1,e⟩|⟨n1,e⟩
  ·rw[e]at yI;have hr:y.status=.running:=iu.running (λd g x=>x.2.1) yI;rw[Ym hr];exact hr
  ·rw[e]at yI;rcases yI with yI|⟨_,g1,rfl,Ly⟩
   ·have hr:y.status=.running:=cV.running (λd g x=>x.2.1) yI;rw[Ym hr];exact hr
   ·have LF:g'.status=.running\/g'.status=.finished:=ZO ie;unfold woken;have ak1:(mayWake P gi&&g'.status != .blocked&&g'.status != .waiting)=true:=(by rcases LF with hs|hs<;>simp[L1,hs]);rw[if_pos ak1];unfold YZ;have:=Ly.2.2.1;simp[this]
theorem Mode.agf{c Wg N k:Nat}{s:eB}(hm:Mode P c Wg N w gs t K ic s)(e:(K ic).shape=.head k 0):
  (∃n,w.heap[c]?=some (.chan 0 #[] false n n false))/\s=.early/\(sumTo N λi=>(K i).late)=0/\(sumTo N λi=>(K i).cnt)<=4/\WgAt P Wg w (((sumTo N λi=>(K i).cnt:Nat):Int)* KK) 0/\(sumTo N λi=>(K i).cnt)<k:=by
 unfold Mode at hm;simp only[e]at hm;rcases hm with m|m|m|m|m|m|m
 ·obtain⟨a,b,c,d,f,x⟩:=m;refine⟨a,b,c,d,f,?_⟩;rcases x with⟨k',x,y⟩|⟨v,x,_⟩
  ·cases x;exact y
  ·cases x
 ·rcases m.2.2.2.2.2.2 with x|x<;>cases x
 ·rcases m.2.2.2.2.1 with x|x<;>cases x
 ·rcases m.2.2.2.2.2.2 with x|x<;>cases x
 ·rcases m.2.2.2.2.2 with x|x<;>cases x
 ·rcases m.2.2.2.2 with x|x<;>cases x
 ·cases m.2.2.2
theorem Mode.age{c Wg N v:Nat}{s:eB}(hm:Mode P c Wg N w gs t K ic s)(e:(K ic).shape=.mA v 0):
  (∃n,w.heap[c]?=some (.chan 0 #[] false n n false))/\s=.early/\(sumTo N λi=>(K i).late)=0/\(sumTo N λi=>(K i).cnt)<=4/\WgAt P Wg w (((sumTo N λi=>(K i).cnt:Nat):Int)* KK) 0/\(sumTo N λi=>(K i).cnt)<=v/\0<v:=by
 unfold Mode at hm;simp only[e]at hm;rcases hm with m|m|m|m|m|m|m
 ·obtain⟨a,b,c,d,f,x⟩:=m;refine⟨a,b,c,d,f,?_⟩;rcases x with⟨k',x,y⟩|⟨v,x,y⟩
  ·cases x
  ·cases x;exact y
 ·rcases m.2.2.2.2.2.2 with x|x<;>cases x
 ·rcases m.2.2.2.2.1 with x|x<;>cases x
 ·rcases m.2.2.2.2.2.2 with x|x<;>cases x
 ·rcases m.2.2.2.2.2 with x|x<;>cases x
 ·rcases m.2.2.2.2 with x|x<;>cases x
 ·cases m.2.2.2
theorem Mode.PE{c Wg N:Nat}{s:eB}(hm:Mode P c Wg N w gs t K ic s)(e:(K ic).shape=.last 0\/(K ic).shape=.acq 0):
  (∃n,w.heap[c]?=some (.chan 0 #[] false n n false))/\s=.early/\(sumTo N λi=>(K i).late)=0/\(sumTo N λi=>(K i).cnt)=0/\WgAt P Wg w 0 0:=by
 unfold Mode at hm;rcases hm with m|m|m|m|m|m|m
 ·rcases m.2.2.2.2.2 with⟨_,x,_⟩|⟨_,x,_⟩<;>rcases e with e|e<;>rw[e]at x<;>cases x
 ·rcases m.2.2.2.2.2.2 with x|x<;>rcases e with e|e<;>rw[e]at x<;>cases x
 ·rcases m.2.2.2.2.1 with x|x<;>rcases e with e|e<;>rw[e]at x<;>cases x
 ·rcases m.2.2.2.2.2.2 with x|x<;>rcases e with e|e<;>rw[e]at x<;>cases x
 ·exact⟨m.1,m.2.1,m.2.2.1,m.2.2.2.1,m.2.2.2.2.1⟩
 ·rcases m.2.2.2.2 with x|x<;>rcases e with e|e<;>rw[e]at x<;>cases x
 ·have x:=m.2.2.2;rcases e with e|e<;>rw[e]at x<;>cases x
theorem Mode.PF{c Wg N:Nat}{s:eB}(hm:Mode P c Wg N w gs t K ic s)(e:(K ic).shape=.look 0\/(K ic).shape=.close 0):
  (∃n,w.heap[c]?=some (.chan 0 #[] false n n false))/\s=.got/\(sumTo N λi=>(K i).late)=0/\(sumTo N λi=>(K i).cnt)=0:=by
 unfold Mode at hm;rcases hm with m|m|m|m|m|m|m
 ·rcases m.2.2.2.2.2 with⟨_,x,_⟩|⟨_,x,_⟩<;>rcases e with e|e<;>rw[e]at x<;>cases x
 ·rcases m.2.2.2.2.2.2 with x|x<;>rcases e with e|e<;>rw[e]at x<;>cases x
 ·rcases m.2.2.2.2.1 with x|x<;>rcases e with e|e<;>rw[e]at x<;>cases x
 ·rcases m.2.2.2.2.2.2 with x|x<;>rcases e with e|e<;>rw[e]at x<;>cases x
 ·rcases m.2.2.2.2.2 with x|x<;>rcases e with e|e<;>rw[e]at x<;>cases x
 ·exact⟨m.1,m.2.1,m.2.2.1,m.2.2.2.1⟩
 ·have x:=m.2.2.2;rcases e with e|e<;>rw[e]at x<;>cases x
theorem Mode.PG{c Wg N:Nat}{s:eB}(hm:Mode P c Wg N w gs t K ic s)(e:(K ic).shape=.said 0\/(K ic).shape=.iy 0):
  (∃n,w.heap[c]?=some (.chan 0 #[] false n n false))/\s=.early/\((∃st,WgAt P Wg w st 0)\/((sumTo N λi=>(K i).late)=0/\(sumTo N λi=>(K i).cnt)=0/\WgAt P Wg w 0 1))/\
  ∀{w':Tq}{gs':Array SG}{u:Up}{k':GS},(k'.shape=.said 0\/k'.shape=.iy 0)->w'.heap[c]?=w.heap[c]?->w'.heap[Wg]?=w.heap[Wg]?->(WgAt P Wg w 0 1->∀g,gs'[ic]?=some g->g.status=.running)->ic<N->Mode P c Wg N w' gs' (t++u) (upd K ic k') ic s:=by
 have wait:∀{k:GS},(k.shape=.said 0\/k.shape=.iy 0)->k.cnt=0/\k.late=0:=λ{k} h=>by rw[<- GS.nM,<- GS.mO];rcases h with h|h<;>rw[h]<;>exact⟨rfl,rfl⟩
 have tail:∀(w':Tq)(gs':Array SG)(u:Up)(k':GS),(k'.shape=.said 0\/k'.shape=.iy 0)->w'.heap[c]?=w.heap[c]?->w'.heap[Wg]?=w.heap[Wg]?->(WgAt P Wg w 0 1->∀g,gs'[ic]?=some g->g.status=.running)->ic<N->Mode P c Wg N w' gs' (t++u) (upd K ic k') ic s:=by
  intro w' gs' u k' hk hc hW hr fX;have e1:sumTo N (λi=>(upd K ic k' i).cnt)=sumTo N λi=>(K i).cnt:=lQ K k' GS.cnt (by rw[(wait hk).1,(wait e).1]);have e2:sumTo N (λi=>(upd K ic k' i).late)=sumTo N λi=>(K i).late:=lQ K k' GS.late (by rw[(wait hk).2,(wait e).2]);have e3:∀st sm,WgAt P Wg w' st sm=WgAt P Wg w st sm:=λst sm=>by unfold WgAt;rw[hW]
  have e5:∀i (q:GS),(q=.load 0\/q=.store 0\/q=.mS 0)->(upd K ic k' i).shape=q->(K i).shape=q:=λi q hq hs=>by
   by_cases hi:i=ic
   ·subst hi;rw[bA]at hs;rcases hk with x|x<;>rw[x]at hs<;>subst hs<;>rcases hq with y|y|y<;>cases y
   ·rw[bf _ _ hi]at hs;exact hs
  unfold Mode at hm⊢;simp only[e1,e2,e3,hc,bA];rcases hm with m|m|m|m|m|m|m
  ·rcases m.2.2.2.2.2 with⟨_,x,_⟩|⟨_,x,_⟩<;>rcases e with e|e<;>rw[e]at x<;>cases x
  ·exact .inr (.inl ⟨m.1,m.2.1,m.2.2.1,m.2.2.2.1,m.2.2.2.2.1,m.2.2.2.2.2.1,hk⟩)
  ·exact .inr (.inr (.inl ⟨m.1,m.2.1,m.2.2.1,m.2.2.2.1,hk,λi hi x=>m.2.2.2.2.2.1 i hi (x.imp (e5 i _ (.inl rfl)) (e5 i _ (.inr (.inl rfl)))),λi hi x=>m.2.2.2.2.2.2 i hi (e5 i _ (.inr (.inr rfl)) x)⟩))
  ·exact .inr (.inr (.inr (.inl ⟨m.1,m.2.1,m.2.2.1,m.2.2.2.1,m.2.2.2.2.1,hr m.2.2.2.2.1,hk⟩)))
  ·rcases m.2.2.2.2.2 with x|x<;>rcases e with e|e<;>rw[e]at x<;>cases x
  ·rcases m.2.2.2.2 with x|x<;>rcases e with e|e<;>rw[e]at x<;>cases x
  ·have x:=m.2.2.2;rcases e with e|e<;>rw[e]at x<;>cases x
 have h_:=hm;unfold Mode at hm;rcases hm with m|m|m|m|m|m|m
 ·rcases m.2.2.2.2.2 with⟨_,x,_⟩|⟨_,x,_⟩<;>rcases e with e|e<;>rw[e]at x<;>cases x
 ·exact⟨m.1,m.2.1,.inl ⟨_,m.2.2.2.2.2.1⟩,λ{w'} {gs'} {u} {k'}=>tail w' gs' u k'⟩
 ·refine⟨m.1,m.2.1,.inl ?_,λ{w'} {gs'} {u} {k'}=>tail w' gs' u k'⟩;have:∃i,i<N/\(K i).late=1:=by
   apply Tv;intro fD;have hz:sumTo N (λi=>(K i).late)=sumTo N λ_=>0:=Vt λi hi=>by
    have aG:¬(K i).late=1:=λx=>fD ⟨i,hi,x⟩;cases lz:K i<;>rw[lz]at aG<;>first|rfl|exact absurd rfl aG
   have h0:sumTo N (λ_=>0)=0:=by
    have:∀N,sumTo N (λ_=>0)=0:=λN=>(by induction N with|zero=>rfl|succ N ih=>simp[sumTo,ih]);exact this N
   have:=m.2.2.1;omega
  obtain⟨i,hi,fj⟩:=this;obtain⟨_,_,_,_,_,m6,m7⟩:=h_.D_ hi fj;cases lz:K i<;>rw[lz]at fj m6 m7<;>simp[GS.late]at fj
  ·exact⟨1,m6 (.inl rfl)⟩
  ·exact⟨1,m6 (.inr rfl)⟩
  ·exact⟨0,m7 rfl⟩
 ·exact⟨m.1,m.2.1,.inr ⟨m.2.2.1,m.2.2.2.1,m.2.2.2.2.1⟩,λ{w'} {gs'} {u} {k'}=>tail w' gs' u k'⟩
 ·rcases m.2.2.2.2.2 with x|x<;>rcases e with e|e<;>rw[e]at x<;>cases x
 ·rcases m.2.2.2.2 with x|x<;>rcases e with e|e<;>rw[e]at x<;>cases x
 ·have x:=m.2.2.2;rcases e with e|e<;>rw[e]at x<;>cases x
theorem HC(Im:cE):mY {noView with ab:=Im} {noView with ab:=Im}:=⟨λ_=> .inr rfl,λ_ _=> .inr rfl,λ_ _ _=>rfl⟩
theorem anL(Im:cE):mY noView {noView with ab:=Im}:=⟨λ_=> .inr rfl,λ_ _=> .inl rfl,λb hb=>absurd rfl hb⟩
theorem Inv.Af(h:Inv P n0 W0 V gs w t K Im ic (some p) st)(aI:p.recv=true){gi bE:SG}{es:Array Uu}{k':GS}{a:Va}{s:eB}(hs:st=some s)(aN:gs[ic]?=some gi)(aP:stepG P false gi w=.go bE w' es)(hd:U0 t ic=1)
  (ha:Atom a es) (Az:a=ej p.Wg\/a=pj p.Wg) (oe:w'=w\/∃x,w'=w.setCell a x) (hk:k'.is P p.c p.Wg Im p.Ss 1 bE) (hv:k'.view Im={noView with ab:=Im}) (yV:(K ic).view Im={noView with ab:=Im}) (da:k'.idx=none) (vq:(K ic).idx=none)
  (gQ:∃n,w.heap[p.c]?=some (.chan 0 #[] false n n false))
  (yL:Mode P p.c p.Wg gs.size w' ((gs.map (woken P gi bE w')).setIfInBounds ic bE) (t++Tc ic gi.frame.fn gi.frame.place es) (upd K ic k') ic s) (vD:rE k'.dc (K ic).dc):gH P n0 W0 V gs w sl t K Im ic (some p) st ic:=by
 obtain⟨s',_,gA,_,_⟩:=h.mode aI;exact h.FJ aI hs gA aN aP hd ha Az oe hk (by rw[hv,yV];exact HC Im) (λ_=>rfl) da vq (.inl rfl) gQ yL vD
theorem Inv.alm(h:Inv P n0 W0 V gs w t K Im ic (some p) st)(aI:p.recv=true){k n:Nat}{gi:SG}(aN:gs[ic]?=some gi)(hK:K ic=.head k n)(jS:eM P Im p.c p.Wg k (U0 t ic) gi):gH P n0 W0 V gs w sl t K Im ic (some p) st ic:=by
 obtain⟨s,hs,gA,iX,hm⟩:=h.mode aI;obtain⟨m1,m2,m3,m4,m5,m6⟩:=hm.agf (k:=k) (by rw[hK];rfl);obtain⟨k,rfl⟩:∃k',k=k'+1:=⟨k-1,by omega⟩;obtain⟨hd,bL,Hc⟩:=eM.succ _ _ _ _ jS;obtain⟨g',aP,hz,L7⟩:=Hc _ (by omega) m4;have ma:=aP w m5;have uT:∀k':GS,k'.cnt=0->k'.late=0->sumTo gs.size (λi=>(upd K ic k' i).cnt)=(sumTo gs.size λi=>(K i).cnt)/\sumTo gs.size (λi=>(upd K ic k' i).late)=(sumTo gs.size λi=>(K i).late):=λk' h1 h2=>
  ⟨lQ K k' GS.cnt (by rw[h1,hK];rfl),lQ K k' GS.late (by rw[h2,hK];rfl)⟩
 by_cases hv:(sumTo gs.size λi=>(K i).cnt)=0
 ·obtain⟨n',cy⟩:=hz hv;refine h.Af aI (k':=.acq n') (a:=ej p.Wg) hs aN ma hd (.inl rfl) (.inl rfl) (.inl rfl) cy rfl (by rw[hK];rfl) rfl (by rw[hK];rfl) m1 ?_ (by rw[hK];exact .inl (by simp[GS.dc];omega));unfold Mode;simp only[(uT (.acq n') rfl rfl).1,(uT (.acq n') rfl rfl).2,bA];refine .inr (.inr (.inr (.inr (.inl ⟨m1,m2,m3,hv,?_,.inr rfl⟩))));rw[hv]at m5;simpa using m5
 ·obtain⟨n',cy⟩:=L7 hv;refine h.Af aI (k':=.mA (sumTo gs.size λi=>(K i).cnt) n') (a:=ej p.Wg) hs aN ma hd (.inl rfl) (.inl rfl) (.inl rfl) cy rfl (by rw[hK];rfl) rfl (by rw[hK];rfl) m1 ?_ (by rw[hK];exact .inl (by simp[GS.dc];omega));unfold Mode;simp only[(uT (.mA _ n') rfl rfl).1,(uT (.mA _ n') rfl rfl).2,bA];exact .inl ⟨m1,m2,m3,m4,m5,.inr ⟨_,rfl,SP _,by omega⟩⟩
theorem Inv.ahi(h:Inv P n0 W0 V gs w t K Im ic (some p) st)(aI:p.recv=true){v n:Nat}{gi:SG}(aN:gs[ic]?=some gi)(hK:K ic=.mA v n)(jS:Fa P p.c p.Wg Im v (U0 t ic) gi):gH P n0 W0 V gs w sl t K Im ic (some p) st ic:=by
 obtain⟨s,hs,gA,iX,hm⟩:=h.mode aI;obtain⟨m1,m2,m3,m4,m5,m6,m7⟩:=hm.age (v:=v) (by rw[hK];rfl);obtain⟨hd,bL,⟨g1,Hb,n1,amy⟩,alJ⟩:=jS;have rX:p.c≠p.Wg:=h.phase.2.2.1;have uT:∀k':GS,k'.cnt=0->k'.late=0->sumTo gs.size (λi=>(upd K ic k' i).cnt)=(sumTo gs.size λi=>(K i).cnt)/\sumTo gs.size (λi=>(upd K ic k' i).late)=(sumTo gs.size λi=>(K i).late):=λk' h1 h2=>
  ⟨lQ K k' GS.cnt (by rw[h1,hK];rfl),lQ K k' GS.late (by rw[h2,hK];rfl)⟩
 by_cases hv:(sumTo gs.size λi=>(K i).cnt)=v
 ·refine h.Af aI (k':=.said n1) (a:=ej p.Wg) hs aN (Hb w (by rw[<- hv];exact m5)) hd (.inr (.inr (.inl rfl))) (.inl rfl) (.inr ⟨_,rfl⟩) amy rfl (by rw[hK];rfl) rfl (by rw[hK];rfl) m1 ?_ (by rw[hK];exact .inl (by simp[GS.dc];omega));unfold Mode;simp only[(uT (.said n1) rfl rfl).1,(uT (.said n1) rfl rfl).2,bA];refine .inr (.inl ⟨?_,m2,m3,by omega,m4,?_,.inl rfl⟩)
  ·obtain⟨n,hn⟩:=m1;exact⟨n,by rw[wU _ _ _ (Ne.symm rX)];exact hn⟩
  ·rw[hv];exact m5.Ir _
 ·obtain⟨g',ma,n',cy⟩:=alJ (sumTo gs.size λi=>(K i).cnt) (by omega);refine h.Af aI (k':=.head v n') (a:=ej p.Wg) hs aN (ma w m5) hd (.inl rfl) (.inl rfl) (.inl rfl) cy rfl (by rw[hK];rfl) rfl (by rw[hK];rfl) m1 ?_ (by rw[hK];exact .inl (by simp[GS.dc]));unfold Mode;simp only[(uT (.head v n') rfl rfl).1,(uT (.head v n') rfl rfl).2,bA];exact .inl ⟨m1,m2,m3,m4,m5,.inl ⟨v,rfl,by omega⟩⟩
theorem Inv.anj(h:Inv P n0 W0 V gs w t K Im ic (some p) st)(aI:p.recv=true){n:Nat}{gi:SG}(aN:gs[ic]?=some gi)(hK:K ic=.last n)(jS:IY P Im p.c p.Wg (U0 t ic) gi):gH P n0 W0 V gs w sl t K Im ic (some p) st ic:=by
 obtain⟨s,hs,gA,iX,hm⟩:=h.mode aI;obtain⟨m1,m2,m3,m4,m5⟩:=hm.PE (.inl (by rw[hK];rfl));obtain⟨hd,bL,g',aP,n',cy⟩:=jS;refine h.Af aI (k':=.acq n') (a:=ej p.Wg) hs aN (aP w m5) hd (.inl rfl) (.inl rfl) (.inl rfl) cy rfl (by rw[hK];rfl) rfl (by rw[hK];rfl) m1 ?_ (by rw[hK];exact .inl (by simp[GS.dc]));unfold Mode;have e1:sumTo gs.size (λi=>(upd K ic (.acq n') i).cnt)=0:=by rw[lQ K (.acq n') GS.cnt (by rw[hK];rfl)];exact m4
 have e2:sumTo gs.size (λi=>(upd K ic (.acq n') i).late)=0:=by rw[lQ K (.acq n') GS.late (by rw[hK];rfl)];exact m3
 simp only[e1,e2,bA];exact .inr (.inr (.inr (.inr (.inl ⟨m1,m2,trivial,trivial,m5,.inr rfl⟩))))
theorem Inv.ahu(h:Inv P n0 W0 V gs w t K Im ic (some p) st)(aI:p.recv=true){n:Nat}{gi:SG}(aN:gs[ic]?=some gi)(hK:K ic=.iy n)(jS:Fc P Im p.c p.Wg (U0 t ic) gi):gH P n0 W0 V gs w sl t K Im ic (some p) st ic:=by
 obtain⟨s,hs,gA,iX,hm⟩:=h.mode aI;obtain⟨m1,m2,m3,mk⟩:=hm.PG (.inr (by rw[hK];rfl));obtain⟨hd,bL,alU,wP,g',Hg,n',cy⟩:=jS;have rX:p.c≠p.Wg:=h.phase.2.2.1;rcases m3 with⟨stv,hW⟩|⟨m4,m5,hW⟩
 ·
  have aP:=wP w stv hW;have alO:¬WgAt P p.Wg w 0 1:=λx=>by have:=(hW.inj x).2;cases this
  refine h.uw aI (k':=.iy 0) (s':=s) gA aN aP (.inr ⟨rfl,gi,rfl,by rw[hd];exact⟨rfl,bL,alU,wP,g',Hg,n',cy⟩⟩) (by rw[hK];exact HC Im) (λ_=>rfl) rfl (λj hj=>by rw[hK]at hj;cases hj) (.inl rfl) (by simp) (by simp) (by simp) rfl (λ_ _ _=>rfl) rfl rfl rfl
   (mk (.inr rfl) rfl rfl (λx=>absurd x alO) iX) (.inl m1) ?_ ?_
  ·have e0:t++Tc ic gi.frame.fn gi.frame.place #[]=t:=(by simp[Tc]);have hr:Rest p.Wg t K ic st:=h.out.2.2.1;rw[hs]at hr;refine hr.app (λidx a ha hx=> .inr (hx.app (by obtain⟨op,ay,_⟩:=U1 ha;exact TN ay) λm _ _ hj=> .inl ?_)) (λidx a _ ⟨op,ay,_⟩ _=>by simp[Tc]at ay);by_cases cX:m=ic
   ·subst cX;rw[hK]at hj;cases hj
   ·rw[bf _ _ cX];exact hj
  ·by_cases hn:n=0
   ·refine .inr ⟨funext λj=> ?_,?_⟩
    ·by_cases hj:j=ic
     ·subst hj;simp only[bA,hK,hn]
     ·simp only[bf _ _ hj]
    ·simp only[flag];rw[Tb (by simpa using iX),aN];simp[bL]
   ·exact zk iX (by rw[hK];exact .inr ⟨rfl,.inr ⟨rfl,by simp only[GS.dc];omega⟩⟩)
 ·refine h.Af aI (k':=.last n') (a:=pj p.Wg) hs aN (Hg w hW) hd (.inr (.inr (.inr rfl))) (.inr rfl) (.inr ⟨_,rfl⟩) cy rfl (by rw[hK];rfl) rfl (by rw[hK];rfl) m1 ?_ (by rw[hK];exact .inl (by simp[GS.dc]));unfold Mode;have e1:sumTo gs.size (λi=>(upd K ic (.last n') i).cnt)=0:=by rw[lQ K (.last n') GS.cnt (by rw[hK];rfl)];exact m5
  have e2:sumTo gs.size (λi=>(upd K ic (.last n') i).late)=0:=by rw[lQ K (.last n') GS.late (by rw[hK];rfl)];exact m4
  simp only[e1,e2,bA];obtain⟨n,hn⟩:=m1;exact .inr (.inr (.inr (.inr (.inl ⟨⟨n,by rw[wU _ _ _ (Ne.symm rX)];exact hn⟩,m2,trivial,trivial,hW.ads 0,.inl rfl⟩))))
theorem Inv.aq6(h:Inv P n0 W0 V gs w t K Im ic (some p) st)(aI:p.recv=true){n:Nat}{gi:SG}(aN:gs[ic]?=some gi)(hK:K ic=.said n)(jS:Fb P Im p.c p.Wg (U0 t ic) gi):gH P n0 W0 V gs w sl t K Im ic (some p) st ic:=by
 obtain⟨s,hs,gA,iX,hm⟩:=h.mode aI;obtain⟨m1,m2,m3,mk⟩:=hm.PG (.inl (by rw[hK];rfl));obtain⟨hd,bL,g',aP,n',cy⟩:=jS;have n4:∀e∈#[kA (.write (pj p.Wg))],e=kA (.write (pj p.Wg)):=λe he=>by simpa using he
 have aa0:g'.status=.running:=cV.running (λd g x=>x.2.1) cy;refine h.uw aI (k':=.iy n') (s':=s) gA aN (aP w) (.inl (by rw[hd];exact cy)) (by rw[hK];exact HC Im) (λ_=>rfl) rfl (λj hj=>by rw[hK]at hj;cases hj) (.inl rfl) (λe he x hx=> .inr (.inl ?_)) (λe he=> ?_) (λe he a=> ?_) rfl (λ_ _ _=>rfl) rfl rfl rfl
  (mk (.inr rfl) rfl rfl (λ_ g hg=> ?_) iX) (.inl m1) ?_ (zk iX (by rw[hK];exact .inl (by simp[GS.dc])))
 ·rw[n4 e he]at hx;cases hx;exact⟨rfl,rfl,rfl⟩
 ·rw[n4 e he];exact h.low.2
 ·rw[n4 e he];simp[kA,Tt]
 ·rcases getElem?_next iX hg with⟨_,rfl⟩|⟨aG,_⟩
  ·exact aa0
  ·exact absurd rfl aG
 ·have hr:Rest p.Wg t K ic st:=h.out.2.2.1;rw[hs,m2]at hr;rw[m2];refine hr.app (λidx a ha hx=> .inr (hx.app (by obtain⟨op,ay,_⟩:=U1 ha;exact TN ay) λm _ _ hj=> .inl ?_)) (λidx a _ ⟨op,ay,yG,_⟩ _=> .inr (.inr ⟨ic,?_,gA,.inr (.inl rfl)⟩))
  ·by_cases cX:m=ic
   ·subst cX;rw[hK]at hj;cases hj
   ·rw[bf _ _ cX];exact hj
  ·obtain⟨e,_,rfl⟩:=TQ ay;simp[WE,yG]
end
end Go.Gg
