/- A part of the proof. -/
import Derived.Test.YtkanpclgnhdbiaaGreatDoorTicketGivenCard1
import Derived.Conc.Beside
import Derived.Conc.CrowdTrace
import Derived.Conc.CrowdComm
set_option linter.all false
set_option maxRecDepth 4000
set_option maxHeartbeats 4000000
open Array renaming getElem?_append_right->X8,getElem?_eq_getElem->SK,getElem?_eq_some_iff->SR,getElem?_map->WC,getElem?_modify->Wi,getElem?_setIfInBounds_ne->SU,getElem?_setIfInBounds_self_of_lt->S_,getElem_mem->XV,mem_append->Ut,size_append->XE
open Bool renaming false_eq_true->TN
open Classical renaming byContradiction->Tu
open Go renaming Addr->U2,Code->T9,Deferred->UV,Event->Uq,FuncId->TO,Goroutine->SH,IntKind->TV,LoopState->Z9,MemOp->Wc,Operand->Tg,Program->SJ,ResultVar->UL,Touch->YM,Trace->Uk,Value->SO,World->Tp
open Go.BinOp renaming neq->VX
open Go.Conc renaming Deaf->UQ,Deaf_other->ate,Knows->Wm,QuitsD->Y7,act?_of->af',act?_old->X7,deaf_succ->aa',getElem?_append_cases->Xm,getElem?_stand->Yb,heard_old->Wq,knows_own->Ze,lt_of_act?->Wa,lt_size_of_getElem?->TG,mem_ofEvents->TL,mem_of_getElem?->XT,ofEvent_cell0->am',offersAt_of_not_blocked->UT,offersAt_ph->Zo,served->T4,touch_mute->ZU,touch_of->US,woken_run->Ym
open Go.Conc.QuitsD renaming status->ZG
open Go.ConcN renaming le_sumTo->WB,sumTo_congr->Vl
open Go.Event renaming mute->WF
open Go.GoStatus renaming blocked->atc
open Go.Goroutine renaming again->YW
open Go.IntKind renaming i64->SF
open Go.MemAct renaming low_mono->Zl,ofEvent->Ts,touch?->Wd
open Go.MemAct.mark renaming injEq->ai_
open Go.MemOp renaming ofEvents->Ta
open Go.Obj renaming deferred->atm
open Go.Op renaming equal->Xh
open Go.Proofs.Tryz renaming f107->ah_,f109->ag',f89->al_,f97->asg,prog->SC
open Go.Trace renaming g?->Wz
open Go.Value renaming int->SG
open Go.World renaming cell?->Ux,setCell->Xl
open Int renaming toNat->Ya
open List renaming append_assoc->SD,append_nil->SY,cons_append->VA,drop->Ur,drop_append->Vt,drop_append_of_le_length->Wp,drop_drop->ac_,drop_eq_getElem_cons->T8,drop_eq_nil_of_le->TU,drop_zero->XA,ext_getElem?->Yp,flatMap_append->VR,flatMap_cons->Uo,foldl->ab',foldl_append->ZO,foldl_cons->UW,getD_eq_getElem?_getD->SE,getElem?_append_left->SZ,getElem?_append_right->Tj,getElem?_drop->Um,getElem?_eq_getElem->SP,getElem?_eq_some_iff->SN,getElem?_map->To,getElem?_set->UR,getElem?_set_ne->T5,getElem?_set_self->W9,getElem?_take->Uc,getElem_mem->VQ,getLastD_eq_getLast?->Vh,length_append->S9,length_drop->Uh,length_map->Tn,length_set->TQ,map->UY,mapM_cons->T_,mapM_nil->UA,map_append->TF,map_congr_left->Vx,map_cons->UU,map_drop->ag_,map_flatMap->Vs,map_map->XY,map_singleton->Y',map_take->VE,mem_append->SS,mem_append_left->Te,mem_append_right->S4,mem_cons->SL,mem_flatMap->S7,mem_flatten->XM,mem_iff_getElem?->UO,mem_map->Tm,mem_of_getElem?->Ti,mem_of_mem_take->Ws,mem_or_eq_of_mem_set->UI,mem_replicate->Xy,mem_singleton->S5,mem_toArray->TJ,nil_append->UD,nodup_append->U4,not_mem_nil->S0,range->SV,range'->Ub,range'_append_1->Y9,range'_succ->VP,range_eq_range'->Vo,range_succ->Vk,replicate->TM,replicate_succ->Wu,set_append_left->Wy,set_append_right->UN,set_cons_succ->UB,set_cons_zero->TZ,set_set->W8,take->Un,take_add_one->VG,take_append_drop->Vg,take_append_of_le_length->TA,take_length->TH,take_of_length_le->SX,take_set->Z4,take_succ->Wx,take_succ_cons->VU,take_take->U0,take_zero->ak'
open List.Perm renaming refl->ac'
open Nat renaming add_sub_cancel->VY,add_sub_cancel_left->U7,add_zero->UJ,eq_zero_or_pos->UX,le_of_eq->WG,le_refl->SQ,le_trans->UF,lt_of_lt_of_le->Tc,lt_trans->Wn,reduceAdd->SW,strongRecOn->Yo,sub_self->Vd,sub_zero->ZY,zero_add->Wr
open Option renaming bind_eq_bind->TP,getD_some->S8,map_eq_some_iff->Tq,pure_def->Ug,toList_some->YQ
open Option.some renaming inj->VC,injEq->Tl
open Prod.mk renaming injEq->UZ
namespace Go.Gg
open Go.Conc Go.Proofs Go.Gg.Tk
theorem IQ{α:Type}(g:Nat->List α)(i:Nat):(SV (i+1)).flatMap g=(SV i).flatMap g++g i:=by
 rw[Vk,VR];simp
theorem IP{α:Type}(g:Nat->List α){i n:Nat}(h:i<n):(SV n).flatMap g=(SV i).flatMap g++(g i++(Ub (i+1) (n-(i+1))).flatMap g):=by
 have:SV n=SV i++(i::Ub (i+1) (n-(i+1))):=by
  rw[Vo,Vo,<- VP];have:=Y9 (s:=0) (m:=i) (n:=n-(i+1)+1);rw[Wr]at this;rw[this];congr 1;omega
 rw[this,VR,Uo]
theorem MO{α:Type}{l:List α}{i:Nat}{v:α}(h:i<l.length):(l.set i v).take (i+1)=l.take i++[v]:=by
 rw[Wx,Z4,UR,if_pos rfl,if_pos h,List.set_eq_of_length_le (by simp;omega)];rfl
namespace Tk
def iK (h:List Int)(hour j:Nat)(n:Int):List Int:=h.take hour++TM j n++h.drop (hour+j)
theorem D6{h:List Int}{hour j:Nat}{n:Int}(hj:hour+j<=h.length):(iK h hour j n).length=h.length:=by simp[iK];omega
theorem ah4(h:List Int)(hour:Nat)(n:Int):iK h hour 0 n=h:=by simp[iK]
theorem IG{h:List Int}{hour j:Nat}{n:Int}(hj:hour+j<h.length):(iK h hour j n).set (hour+j) n=iK h hour (j+1) n:=by
 unfold iK;have hl:(h.take hour++TM j n).length=hour+j:=by simp;omega
 rw[UN _ _ (by omega),hl,Vd,List.replicate_succ'];rw[T8 hj,TZ,SD,SD,SD];rfl
theorem ah3{h:List Int}{hour j:Nat}{n:Int}(hn:h[hour]?=some n)(hj:hour+j<=h.length):(iK h hour j n)[hour]?=some n:=by
 have hl:=eB hn;unfold iK;rw[SD,Tj (by simp;omega)];have:hour-(h.take hour).length=0:=by simp;omega
 rw[this];cases j with
 |zero=>simpa using hn
 |succ j=>simp[Wu]
theorem ah2{h pre:List Int}{hour:Nat}{n:Int}(h4:h.length=4)(hn:h[hour]?=some n)(hp:pre=h.take (hour+1)):iK h hour (4-hour) n=cH pre:=by
 have hl:=eB hn;have e:pre=h.take hour++[n]:=by rw[hp,Wx,hn];rfl
 unfold iK cH;rw[TU (by omega),SY,e];have h1:(h.take hour++[n]).length=hour+1:=by simp;omega
 rw[h1,show (h.take hour++[n]).getLastD 0=n by simp[Vh],SD];congr 1;rw[show 4-hour=(4-(hour+1))+1 by omega,Wu];rfl
theorem abb{h pre:List Int}{hour:Nat}{n:Int}(hn:h[hour]?=some n)(hp:pre=h.take (hour+1)):pre.length=hour+1/\pre.getLastD 0=n:=by
 have hl:=eB hn;have e:pre=h.take hour++[n]:=by rw[hp,Wx,hn];rfl
 subst e;exact⟨by simp;omega,by simp[Vh]⟩
end Tk
open Go.Conc Go.Proofs Go.Gg.Tk
section
variable {lv:Bool}
def pt (yv:AV)(N ir it:Nat)(h:List Int):List aa:=[.cells [yv] 130,.cells (h.map iv) 83,.cells [.fn (.func 87) [] [.op ir 0,.op (N+1) 0]] 68,.cells [.fn (.func 89) [] [.op (N+2) 0,.op ir 0,.op (N+1) 0,.op N 0,.op it 0,.op (N+3) 0]] 68]
theorem ahP{x:ak}{bc N ir it:Nat}{yv pv:AV}{S:Type}{f:S->List Int->dt S}{Gf:S->List aa}{I:S->Prop}{A:List Int->Prop}(hx:x.Ok)(hY:jr lv SC yv f Gf N I A pv)(hr:∀σ L,(Gf σ++L)[ir]?=some (.cells x.l 76))(ht:∀σ L,(Gf σ++L)[it]?=some (.cells [iv bc] 3))(lh:bc<=3):
  ∀(d hour:Nat)(h pre:List Int)(n0:Int)(σ:S)(M:List aa)(k kp:AV->List aa->Prop),d+hour=x.hours.toNat->h.length=4->h[hour]?=some n0->(0<=n0/\n0<=90+3* hour)->pre=h.take (hour+1)->I σ->(∀a∈ml x bc d pre,A a)->
   (∀h',h'.length=4->h'.take (hour+1)=pre->cP Gf pv k kp (pt yv N ir it h'++M) (bz f (ml x bc d pre) σ))->
   ba lv SC 89 (Gf σ++(pt yv N ir it h++M)) [iv hour,.op (N+2) 0,.op ir 0,.op (N+1) 0,.op N 0,.op it 0,.op (N+3) 0] k kp:=by
 intro d;induction d with
 |zero=>
  intro hour h pre n0 σ M k kp oA h4 nS hb hp hI hA hk;refine bE (rs:=[.tmp 8]) (nt:=61) al_ λhH tD=> ?_;simp only[bk,SW];obtain⟨dc,tQ⟩:=abb nS hp;have oC:hour<4:=by have:=eB nS;omega
  have JM:=hx.hours;have bP:x.l=[iv x.first,iv x.hours,iv x.an,dS x.seen,aZ x.pieces,aZ x.aB]:=rfl;have g0:∀(σ:S)(L:List aa),(Gf σ++L)[N]?=L[0]?:=λσ L=>hY.get σ L 0;have g1:∀(σ:S)(L:List aa),(Gf σ++L)[N+1]?=L[1]?:=λσ L=>hY.get σ L 1;have g2:∀(σ:S)(L:List aa),(Gf σ++L)[N+2]?=L[2]?:=λσ L=>hY.get σ L 2;have s1:∀(σ:S)(L:List aa) x,(Gf σ++L).set (N+1) x=Gf σ++L.set 1 x:=λσ L x=>hY.set σ L 1 x;rw[ml,dc,tQ,VY]at hA hk;refine ai ?_;refine aj ?_;simp only[seval,g2,pt];refine aM ((Pc (x:=x) (h:=h) (n:=n0) hx h4 nS (hr _ _) (by rw[g1];rfl) ?_));(try simp only[seval]);refine aE ?_;refine⟨λhs=> ?_,λhs=> ?_⟩
  ·refine ai ?_;refine aX ?_;have:=hk h h4 hp.symm;rw[hs]at this;simp only[TN,if_false,bz,cP]at this;exact bS this
  ·rw[if_pos hs]at hA hk;rw[Mt]at hk;have QF:(hour:Int)=x.hours:=(by omega);refine aN ?_;refine aj ?_;simp only[seval,hr,bP];refine aE ?_;refine⟨λhc=> ?_,λhc=>by exfalso;simp at hc;omega⟩;refine ai ?_;refine cF ?_;refine gA (4-hour) (λj:Nat=>[(9,iv ((hour+j:Nat):Int))]) (λj=>Gf σ++(pt yv N ir it (iK h hour j n0)++M)) (λj=>True) (λ_ _=>rfl) (by simp only[seval];simp[bN,Wk.refl]) (by rw[ah4];rfl) (λm _ _=>by simp[pt]) trivial (λbT cW j oD hj R hR=> ?_);refine ai ?_;refine aE ?_;refine⟨λhc=> ?_,λhc=> ?_⟩
   ·have eV:j<4-hour:=(by omega);have bb:(0<=(hour:Int)/\(hour:Int)<4)=True:=(by simp;omega);have bj:(0<=(hour:Int)+(j:Int)/\(hour:Int)+(j:Int)<4)=True:=(by simp;omega);have BV:((hour:Int)+(j:Int)).toNat=hour+j:=(by omega);have lJ:(iK h hour j n0).length=4:=(by rw[D6 (by omega),h4]);have lK:(UY iv (iK h hour j n0)).length=4:=(by rw[Tn,lJ]);have hw:SF.wrap ((hour:Int)+(j:Int)+1)=(hour:Int)+((j+1:Nat):Int):=(by rw[bC _ (by omega)];push_cast;omega);refine aN ?_;refine aj ?_;simp only[seval,g1,s1,pt,bb,bj,BV,lK,kv (ah3 nS (show hour+j<=h.length by omega))];refine⟨by omega,?_⟩;rw[vV (by omega),IG (by omega)];refine aj ?_;simp only[seval,hw];exact hR _ ⟨eV,trivial,dn⟩
   ·have:j=4-hour:=(by omega);subst this;have EV:=ah2 h4 nS hp;rw[EV];have BZ:(cH pre).length=4:=(by rw[<- EV,D6 (by omega),h4]);have su:((cH pre).map iv).length=4:=(by rw[Tn,BZ]);have lN:(cH pre).take (hour+1)=pre:=(by unfold cH;rw[TA (by omega),SX (by omega)]);refine b9 ?_;refine aj ?_;simp only[seval,g0,g1,pt,su];rw[SX (i:=4) (l:=(cH pre).map iv) (by rw[su];exact SQ _)];refine wy (hY.call σ (cH pre) (pt yv N ir it (cH pre)++M) _ _ hI (hA _ (by simp)) ?_);have aI:=hk (cH pre) BZ lN;cases hf:f σ (cH pre)with
    |go σ'=>
     rw[hf]at aI;simp only[cP]at aI⊢;(try simp only[seval]);refine aX ?_;exact bS aI
    |stop σ'=>
     rw[hf]at aI;simp only[cP]at aI⊢;(try simp only[seval]);refine aX ?_;exact bS aI
    |bad σ'=>
     rw[hf]at aI;simp only[cP]at aI⊢;exact bS aI
 |succ d ih=>
  intro hour h pre n0 σ M k kp oA h4 nS hb hp hI hA hk;refine bE (rs:=[.tmp 8]) (nt:=61) al_ λhH tD=> ?_;simp only[bk,SW];obtain⟨dc,tQ⟩:=abb nS hp;have JM:=hx.hours;have hpr:=hx.an;have QE:hour<3:=by omega
  have bP:x.l=[iv x.first,iv x.hours,iv x.an,dS x.seen,aZ x.pieces,aZ x.aB]:=rfl;have g1:∀(σ:S)(L:List aa),(Gf σ++L)[N+1]?=L[1]?:=λσ L=>hY.get σ L 1;have g2:∀(σ:S)(L:List aa),(Gf σ++L)[N+2]?=L[2]?:=λσ L=>hY.get σ L 2;have g3:∀(σ:S)(L:List aa),(Gf σ++L)[N+3]?=L[3]?:=λσ L=>hY.get σ L 3;have s1:∀(σ:S)(L:List aa) x,(Gf σ++L).set (N+1) x=Gf σ++L.set 1 x:=λσ L x=>hY.set σ L 1 x;rw[ml,dc,tQ,VY]at hA hk;refine ai ?_;refine aj ?_;simp only[seval,g2,pt];refine aM ((Pc (x:=x) (h:=h) (n:=n0) hx h4 nS (hr _ _) (by rw[g1];rfl) ?_));(try simp only[seval]);refine aE ?_;refine⟨λhs=> ?_,λhs=> ?_⟩
  ·refine ai ?_;refine aX ?_;have:=hk h h4 hp.symm;rw[hs]at this;simp only[TN,if_false,bz,cP]at this;exact bS this
  ·rw[if_pos hs]at hA hk;have QF:¬(hour:Int)=x.hours:=(by omega);refine aN ?_;refine aj ?_;simp only[seval,hr,bP];refine aE ?_;refine⟨λhc=>by exfalso;exact QF hc,λhc=> ?_⟩;refine aN ?_;refine aj ?_;simp only[seval,hr,bP,bC (x.an+1) (by omega)];generalize hg:(λn:Nat=>if hour+1=1/\n≠bc then[]else ml x bc d (pre++[n0+(n:Int)]))=g at hA hk;refine cF ?_;refine yc (measure λm:Nat×S×List Int=>(x.an.toNat+1)-m.1).wf (λm=>[(37,iv (m.1:Nat))]) (λm=>Gf m.2.1++(pt yv N ir it m.2.2++M)) (λm=>m.1<=x.an.toNat+1/\bz f ((SV m.1).flatMap g) σ=.go m.2.1/\m.2.2.length=4/\m.2.2.take (hour+1)=pre) (0,σ,h) (λ_ _=>rfl) (by intro p hp;simp at hp;subst hp;exact⟨_,rfl,Wk.refl _⟩) rfl (λ_ _=>by simp[pt,hY.len]) ⟨by omega,rfl,h4,hp.symm⟩ (λbT cW m ay R hR=> ?_);obtain⟨i,τ,hq⟩:=m;obtain⟨hi,bF,zb,zd⟩:=ay;replace hi:i<=x.an.toNat+1:=hi;replace bF:bz f ((SV i).flatMap g) σ=.go τ:=bF;replace zb:hq.length=4:=zb;replace zd:hq.take (hour+1)=pre:=zd;have E_:hq[hour]?=some n0:=by
    have h1:(hq.take (hour+1))[hour]?=some n0:=(by rw[zd,hp,Uc,if_pos (by omega)];exact nS);rwa [Uc,if_pos (by omega)]at h1
   refine ai ?_;refine aE ?_;refine⟨λhc=> ?_,λhc=> ?_⟩
   ·have bt:i<x.an.toNat+1:=(by omega);have bQ:SF.wrap ((i:Int)+1)=((i+1:Nat):Int):=(by rw[bC _ (by omega)];rfl);have qM:=IP g bt;have sx:=IQ g i;have Bm:I τ:=zM (A:=A) hY.inv _ σ τ (λa ha=>hA a (by rw[qM];exact Te _ ha)) hI bF;refine aN ?_;refine ai ?_;have hqm:(UY iv hq).length=4:=(by rw[Tn,zb]);have bb:(0<=(hour:Int)/\(hour:Int)<4)=True:=(by simp;omega);have bb1:(0<=(hour:Int)+1/\(hour:Int)+1<4)=True:=(by simp;omega);have oG:((hour:Int)+1).toNat=hour+1:=(by omega);have RR:SF.wrap ((hour:Int)+1)=(hour:Int)+1:=bC _ (by omega);have KO:SF.wrap (n0+(i:Int))=n0+(i:Int):=bC _ (by omega);refine aj ?_;simp only[seval,ht];refine wK (λh2=> ?ga) (λh2=> ?gb)
    case' ga=>
     (try simp only[seval,ht]);refine aE ?_;refine⟨λh3=> ?gc,λh3=> ?gd⟩
     case gc=>
      have aL:g i=[]:=(by rw[<- hg];exact if_pos ⟨by simp at h2;omega,by omega⟩);refine b9 ?_;refine aj ?_;simp only[seval,bQ];exact hR _ ⟨(i+1,τ,hq),(by show x.an.toNat+1-(i+1)<x.an.toNat+1-i;omega),⟨by omega,by rw[sx,aL,SY];exact bF,zb,zd⟩,dn⟩
    case' gb=>
     (try simp only[seval]);refine aE ?_
    all_goals
     have aL:g i=ml x bc d (pre++[n0+(i:Int)]):=by
      rw[<- hg];refine if_neg ?_
      rintro⟨q1,q2⟩
      first|(simp at h3;omega)|(simp at h2;omega)
     refine aN ?_;refine aj ?_;simp only[seval,g1,s1,pt,bb,bb1,oG,RR,KO,hqm,kv E_];refine⟨by omega,?_⟩;rw[vV (show hour+1<hq.length by omega)];refine aj ?_;simp only[seval,g3,RR];have ako:(hq.set (hour+1) (n0+(i:Int))).length=4:=(by rw[TQ,zb]);have hqt:pre++[n0+(i:Int)]=(hq.set (hour+1) (n0+(i:Int))).take (hour+1+1):=(by rw[MO (by omega),zd]);refine aM ((ih (hour+1) (hq.set (hour+1) (n0+(i:Int))) (pre++[n0+(i:Int)]) (n0+(i:Int)) τ M _ _ (by omega) ako (by rw[UR,if_pos rfl,if_pos (by omega)]) (by omega) hqt Bm (λa ha=>hA a (by rw[qM,aL];exact S4 _ (Te _ ha))) (λh' ow akn=> ?_)));have Kr:h'.take (hour+1)=pre:=by
      have e:h'.take (hour+1)=(h'.take (hour+1+1)).take (hour+1):=(by rw[U0];congr 1;omega);rw[e,akn,TA (WG dc.symm),SX (WG dc)]
     have zn:bz f ((SV (x.an.toNat+1)).flatMap g) σ=match bz f (g i) τ with
       |.go s'=>bz f ((Ub (i+1) (x.an.toNat+1-(i+1))).flatMap g) s'
       |r=>r:=by
      rw[qM,pO,bF];exact pO f (g i) _ τ
     rw[<- aL];cases hf:bz f (g i) τ with
     |go τ'=>
      simp only[cP];(try simp only[seval]);refine aE ?_;refine aN ?_;refine aj ?_;simp only[seval,bQ];exact hR _ ⟨(i+1,τ',h'),(by show x.an.toNat+1-(i+1)<x.an.toNat+1-i;omega),⟨by omega,by rw[sx,pO,bF];exact hf,ow,Kr⟩,dn⟩
     |stop τ'=>
      simp only[cP];(try simp only[seval]);refine aE ?_;refine ai ?_;refine aX ?_;have aI:=hk h' ow Kr;rw[zn,hf]at aI;exact bS aI
     |bad τ'=>
      simp only[cP];have aI:=hk h' ow Kr;rw[zn,hf]at aI;exact bS aI
   ·have dl:i=x.an.toNat+1:=(by omega);subst dl;have aI:=hk hq zb zd;rw[bF]at aI;refine b9 ?_;refine ai ?_;refine aX ?_;exact bS aI
theorem us{P:SJ}{yv pv:AV}{S:Type}{f:S->List Int->dt S}{Gf:S->List aa}{N:Nat}{I:S->Prop}{A:List Int->Prop}{k:AV->List aa->Prop}(hY:jr lv P yv f Gf N I A pv){σ σ':S}{L:List aa}{a:AV}(hH:bM (Gf σ))(ha:∀n,Lt n a)(hk:k a (Gf σ')):cy (Gf σ).length (Gf σ'++L) a k:=by
 refine jy (H':=Gf σ') (Wk.refl _) rfl (by rw[hY.len,hY.len];exact SQ _) ?_ (ha _) hk;have:=hY.ay (σ:=σ) (M:=[]) (by simpa using hH) σ';simpa using this
theorem IA{H:List aa}{k kp:AV->List aa->Prop}{x:ak}{n:Int}(hk:k (.fn (.func 86) [] [.op H.length 0,.op (H.length+1) 0]) (H++[.cells x.l 76,.cells [iv n] 3])):ba lv SC 64 H [x.av,iv n] k kp:=by
 refine bE (rs:=[.tmp 4]) (nt:=6) Tryz.f64 λhH hA=> ?_;simp only[bk,SW,ak.av];refine ai ?_;refine aj ?_;simp only[seval,T_,UA,Ug,TP];refine aX ?_;exact bS hk
theorem ID{x:ak}{bc N ir it:Nat}{yv pv:AV}{S:Type}{f:S->List Int->dt S}{Gf:S->List aa}{I:S->Prop}{A:List Int->Prop}{σ:S}{k kp:AV->List aa->Prop}(hx:x.Ok)(hY:jr lv SC yv f Gf N I A pv)(hr:∀σ L,(Gf σ++L)[ir]?=some (.cells x.l 76))(ht:∀σ L,(Gf σ++L)[it]?=some (.cells [iv bc] 3))(lh:bc<=3)
  (na:∀n,Lt n pv) (hI:I σ) (hA:∀a∈j3 x bc,A a) (hk:fL Gf pv k kp [] (bz f (j3 x bc) σ)):ba lv SC 86 (Gf σ) [yv,.op ir 0,.op it 0] k kp:=by
 refine bE (rs:=[]) (nt:=15) Tryz.f86 λhH tD=> ?_;simp only[bk,SW];have hN:=hY.len σ;have bP:x.l=[iv x.first,iv x.hours,iv x.an,dS x.seen,aZ x.pieces,aZ x.aB]:=rfl;refine aj ?_;simp only[seval,hY.parts];refine ai ?_;refine aj ?_;simp only[seval,T_,UA,Ug,TP];refine ai ?_;refine aj ?_;simp only[seval,T_,UA,Ug,TP];refine aj ?_;simp only[seval,hr,bP];refine ai ?_;have h0:=hx.first;have hh:=hx.hours;have Kq:[x.first]=Un (0+1) [x.first,0,0,0]:=rfl;refine aM (?_);rw[hN];refine ahP (x:=x) (bc:=bc) hx hY hr ht lh x.hours.toNat 0 [x.first,0,0,0] [x.first] x.first σ [] _ _ rfl rfl rfl (by omega) Kq hI hA (λh' ow y_=> ?_);change cP Gf pv _ _ _ (bz f (j3 x bc) σ);have qY:∀n,Lt n (.aJ []):=λn=>by simp[jm]
 cases hf:bz f (j3 x bc) σ with
 |go s=>
  rw[hf]at hk;simp only[cP,fL]at hk⊢;rw[SY]at hk;(try simp only[seval]);rw[<- hN];exact us hY hH qY hk
 |stop s=>
  rw[hf]at hk;simp only[cP,fL]at hk⊢;rw[SY]at hk;(try simp only[seval]);rw[<- hN];exact us hY hH qY hk
 |bad s=>
  rw[hf]at hk;simp only[cP,fL]at hk⊢;rw[SY]at hk;rw[<- hN];exact us hY hH na hk
end
theorem ON{α:Type}{l:List α}{i j:Nat}{v:α}(h:i<j):(l.set i v).drop j=l.drop j:=by
 apply Yp;intro k;rw[Um,Um,T5 (by omega)]
theorem yn{α:Type}{g:α->AV}{xs:List α}{i:Nat}{x:α}(h:xs[i]?=some x):(xs.map g).drop i=g x::(xs.drop (i+1)).map g:=by
 rw[<- ag_,uZ h,UU]
namespace Tk
def acu (k:Nat):List Int:=TM (4-k) (-1)++[-1, -1, -1]
structure oe (h:List Int)(k p:Nat)(t:List Nat)(tc:List Int):Prop where
 len:tc.length=11
 pre:tc.take (4+p)=h++t.map λn:Nat=>(n:Int)
 tl:tc.drop (4+k)=acu k
theorem oe.all{h:List Int}{k:Nat}{t:List Nat}{tc:List Int}(ht:t.length=k)(n:oe h k k t tc):tc=dM h t:=by
 have:=Vg (4+k) tc;rw[n.pre,n.tl]at this;rw[<- this];unfold dM kL acu;rw[ht];simp[SD]
theorem oe.back{h:List Int}{k p:Nat}{t:List Nat}{n:Nat}{tc:List Int}(h4:h.length=4)(ht:t.length=p)(q:oe h k (p+1) (t++[n]) tc):oe h k p t tc:=by
 refine⟨q.len,?_,q.tl⟩;have e:tc.take (4+p)=(tc.take (4+(p+1))).take (4+p):=by rw[U0];congr 1;omega
 rw[e,q.pre,TF,<- SD,TA (by simp[h4,ht]),SX (by simp[h4,ht])]
theorem oe.next{h:List Int}{k p:Nat}{t:List Nat}{n:Nat}{tc:List Int}(hp:p<k)(hk:k<=4)(q:oe h k p t tc):oe h k (p+1) (t++[n]) (tc.set (4+p) (n:Int)):=by
 refine⟨by rw[TQ];exact q.len,?_,?_⟩
 ·rw[show 4+(p+1)=(4+p)+1 by omega,MO (by rw[q.len];omega),q.pre];simp
 ·rw[ON (by omega)];exact q.tl
theorem amR{h:List Int}{q:Nat}{qs:List Nat}{u:Nat}{t:List Nat}:(j_ (q::qs) u t).map (dM h)=(SV 9).flatMap λn=>if u.testBit n|| !q.testBit n then[]else(j_ qs (u|||2^n) (t++[n])).map (dM h):=by
 rw[j_,Vs];congr 1;funext n;split<;>rfl
end Tk
section
variable {lv:Bool}
def sI (yv:AV)(N ir:Nat)(ps:List Nat)(tc:List Int):List aa:=[.cells [yv] 132,.cells (tc.map iv) 86,.cells (ps.map λn=>wv n) 80,.cells [.fn (.func 107) [] [.op ir 0,.op N 0,.op (N+1) 0,.op (N+2) 0,.op (N+3) 0]] 157]
theorem ag3{x:ak}{h ps N ir:_}{yv pv:AV}{S:Type}{f:S->List Int->dt S}{Gf:S->List aa}{I:S->Prop}{A:List Int->Prop}(hx:x.Ok)(h4:h.length=4)(hY:jr lv SC yv f Gf N I A pv)(hr:∀σ L,(Gf σ++L)[ir]?=some (.cells x.l 76))(qJ:ps=x.pieces.map (bW h)++TM (4-x.pieces.length) 0):
  ∀(d p u:Nat)(t:List Nat)(tc:List Int)(σ:S)(M:List aa)(k kp:AV->List aa->Prop),d+p=x.pieces.length->u<65536->t.length=p->oe h x.pieces.length p t tc->I σ->(∀a∈(j_ ((x.pieces.map (bW h)).drop p) u t).map (dM h),A a)->
   (∀dY,oe h x.pieces.length p t dY->cP Gf pv k kp (sI yv N ir ps dY++M) (bz f ((j_ ((x.pieces.map (bW h)).drop p) u t).map (dM h)) σ))->
   ba lv SC 107 (Gf σ++(sI yv N ir ps tc++M)) [iv p,wv u,.op ir 0,.op N 0,.op (N+1) 0,.op (N+2) 0,.op (N+3) 0] k kp:=by
 intro d;induction d with
 |zero=>
  intro p u t tc σ M k kp Jt hu ht hT hI hA hk;refine bE (rs:=[.tmp 9]) (nt:=47) ah_ λhH tD=> ?_;simp only[bk,SW];have bP:x.l=[iv x.first,iv x.hours,iv x.an,dS x.seen,aZ x.pieces,aZ x.aB]:=rfl;have g0:∀(σ:S)(L:List aa),(Gf σ++L)[N]?=L[0]?:=λσ L=>hY.get σ L 0;have g1:∀(σ:S)(L:List aa),(Gf σ++L)[N+1]?=L[1]?:=λσ L=>hY.get σ L 1;have dc:p=x.pieces.length:=by omega
  have vp:(x.pieces.map (bW h)).drop p=[]:=TU (by simp;omega);rw[vp,j_]at hA hk;rw[Y']at hA hk;rw[Mt]at hk;have xh:tc=dM h t:=by subst dc;exact hT.all ht
  have jK:(tc.map iv).length=11:=by rw[Tn,hT.len]
  refine ai ?_;(repeat apply gX);refine NS ?_;refine aj ?_;simp only[seval,hr,bP,aZ];refine aE ?_;refine⟨λhc=> ?_,λhc=>by exfalso;simp at hc;omega⟩;refine aj ?_;simp only[seval,g0,g1,sI,jK];rw[SX (i:=11) (l:=tc.map iv) (by rw[jK];exact SQ _)];rw[<- xh]at hA hk;have aI:=hk tc hT;refine wy (hY.call σ tc (sI yv N ir ps tc++M) _ _ hI (hA _ (by simp)) ?_);cases hf:f σ tc with
  |go σ'=>
   rw[hf]at aI;simp only[cP]at aI⊢;(try simp only[seval]);refine aX ?_;exact bS aI
  |stop σ'=>
   rw[hf]at aI;simp only[cP]at aI⊢;(try simp only[seval]);refine aX ?_;exact bS aI
  |bad σ'=>
   rw[hf]at aI;simp only[cP]at aI⊢;exact bS aI
 |succ d ih=>
  intro p u t tc σ M k kp Jt hu ht hT hI hA hk;refine bE (rs:=[.tmp 9]) (nt:=47) ah_ λhH tD=> ?_;simp only[bk,SW];have bP:x.l=[iv x.first,iv x.hours,iv x.an,dS x.seen,aZ x.pieces,aZ x.aB]:=rfl;have g1:∀(σ:S)(L:List aa),(Gf σ++L)[N+1]?=L[1]?:=λσ L=>hY.get σ L 1;have g2:∀(σ:S)(L:List aa),(Gf σ++L)[N+2]?=L[2]?:=λσ L=>hY.get σ L 2;have g3:∀(σ:S)(L:List aa),(Gf σ++L)[N+3]?=L[3]?:=λσ L=>hY.get σ L 3;have s1:∀(σ:S)(L:List aa) x,(Gf σ++L).set (N+1) x=Gf σ++L.set 1 x:=λσ L x=>hY.set σ L 1 x;have m9:=hx.cZ;have BZ:p<4:=by omega
  obtain⟨y,hy⟩:=cC (xs:=x.pieces) (i:=p) (by omega);have uc:(x.pieces.map (bW h))[p]?=some (bW h y):=by rw[To,hy];rfl
  have m_:ps[p]?=some (bW h y):=by rw[qJ,SZ (by simp;omega)];exact uc
  have lO:bW h y<65536:=Wn (Pk h y) (by decide);have aC:¬(p:Int)=(x.pieces.length:Int):=by omega
  rw[uZ uc,amR]at hA hk;generalize hg:(λn=>if u.testBit n|| !(bW h y).testBit n then[]else(j_ ((x.pieces.map (bW h)).drop (p+1)) (u|||2^n) (t++[n])).map (dM h))=g at hA hk;refine ai ?_;(repeat apply gX);refine NS ?_;refine aj ?_;simp only[seval,hr,bP,aZ];refine aE ?_;refine⟨λhc=>by exfalso;exact aC (by simpa using hc),λhc=> ?_⟩;refine aN ?_;(repeat apply gX);refine NO ?_;simp only[seval];refine ai ?_;refine cF ?_;refine yc (measure λm:Nat×S×List Int=>9-m.1).wf (λm=>[(20,iv (m.1:Nat))]) (λm=>Gf m.2.1++(sI yv N ir ps m.2.2++M)) (λm=>m.1<=9/\bz f ((SV m.1).flatMap g) σ=.go m.2.1/\oe h x.pieces.length p t m.2.2) (0,σ,tc) (λ_ _=>rfl) (by intro p hp;simp at hp;subst hp;exact⟨_,rfl,Wk.refl _⟩) rfl (λ_ _=>by simp[sI,hY.len]) ⟨by omega,rfl,hT⟩ (λbT cW m ay R hR=> ?_);obtain⟨i,τ,tq⟩:=m;obtain⟨hi,bF,kV⟩:=ay;replace hi:i<=9:=hi;replace bF:bz f ((SV i).flatMap g) σ=.go τ:=bF;replace kV:oe h x.pieces.length p t tq:=kV;refine ai ?_;refine aE ?_;refine⟨λhc=> ?_,λhc=> ?_⟩
  ·have bt:i<9:=(by omega);have bQ:SF.wrap ((i:Int)+1)=((i+1:Nat):Int):=(by rw[bC _ (by omega)];rfl);have qM:=IP g bt;have sx:=IQ g i;have Bm:I τ:=zM (A:=A) hY.inv _ σ τ (λa ha=>hA a (by rw[qM];exact Te _ ha)) hI bF;have b4:(0<=(p:Int)/\(p:Int)<4)=True:=(by simp;omega);have CQ:(u.testBit i|| !(bW h y).testBit i)=true->g i=[]:=λe=>(by rw[<- hg];exact if_pos e);have IX:(u.testBit i|| !(bW h y).testBit i)=false->g i=(j_ ((x.pieces.map (bW h)).drop (p+1)) (u|||2^i) (t++[i])).map (dM h):=λe=>(by rw[<- hg];exact if_neg (by rw[e];simp));refine aN ?_;refine ai ?_;refine aj ?_;simp only[seval,g2,sI,b4,yn m_];refine aM ((wH hu ?_));(try simp only[seval,g2,sI,b4,yn m_]);refine wK (λh2=> ?_) (λh2=> ?_)
   ·(try simp only[seval,g2,sI,b4,yn m_]);refine aM ((wH lO ?_));(try simp only[seval]);refine aE ?_;refine⟨λh3=> ?_,λh3=> ?_⟩
    ·have aL:=CQ (by rw[h2];simpa using h3);refine b9 ?_;refine aj ?_;simp only[seval,bQ];exact hR _ ⟨(i+1,τ,tq),(by show 9-(i+1)<9-i;omega),⟨by omega,by rw[sx,aL,SY];exact bF,kV⟩,dn⟩
    ·have aL:=IX (by rw[h2];simpa using h3);have jK:(tq.map iv).length=11:=(by rw[Tn,kV.len]);have HM:4+p<tq.length:=(by rw[kV.len];omega);have Fv:SF.wrap ((p:Int)+1)=((p+1:Nat):Int):=(by rw[bC _ (by omega)];rfl);refine aN ?_;refine aj ?_;simp only[seval,g1,s1,sI,b4];refine⟨by omega,?_⟩;rw[vV HM];refine eo 6 ?_;simp only[seval,g3,Fv];refine ie (wv (u|||2^i)) (dC (tx hu (show i<16 by omega) ⟨rfl,rfl⟩)) ?_;rw[Fv];have lj:u|||2^i<65536:=oS hu (v5 (by omega));refine aM ((ih (p+1) (u|||2^i) (t++[i]) (tq.set (4+p) (i:Int)) τ M _ _ (by omega) lj (by simp[ht]) (kV.next (by omega) m9) Bm (λa ha=>hA a (by rw[qM,aL];exact S4 _ (Te _ ha))) (λdY r6=> ?_)));have Bq:=r6.back h4 ht;have zn:bz f ((SV 9).flatMap g) σ=match bz f (g i) τ with
       |.go s'=>bz f ((Ub (i+1) (9-(i+1))).flatMap g) s'
       |r=>r:=by
      rw[qM,pO,bF];exact pO f (g i) _ τ
     rw[<- aL];have aI:=hk dY Bq;rw[zn]at aI;cases hf:bz f (g i) τ with
     |go τ'=>
      simp only[cP];(try simp only[seval]);refine aE ?_;refine aN ?_;refine aj ?_;simp only[seval,bQ];exact hR _ ⟨(i+1,τ',dY),(by show 9-(i+1)<9-i;omega),⟨by omega,by rw[sx,pO,bF];exact hf,Bq⟩,dn⟩
     |stop τ'=>
      rw[hf]at aI;simp only[cP]at aI⊢;(try simp only[seval]);refine aE ?_;refine ai ?_;refine aX ?_;exact bS aI
     |bad τ'=>
      rw[hf]at aI;simp only[cP]at aI⊢;exact bS aI
   ·(try simp only[seval]);refine aE ?_;have aL:=CQ (by rw[show u.testBit i=true by simpa using h2];rfl);refine b9 ?_;refine aj ?_;simp only[seval,bQ];exact hR _ ⟨(i+1,τ,tq),(by show 9-(i+1)<9-i;omega),⟨by omega,by rw[sx,aL,SY];exact bF,kV⟩,dn⟩
  ·have dl:i=9:=(by omega);subst dl;have aI:=hk tq kV;rw[bF]at aI;refine b9 ?_;refine ai ?_;refine aX ?_;exact bS aI
end
open Go.Conc Go.Proofs Go.Gg.Tk
theorem MB{α:Type}{g:α->AV}{xs:List α}{i:Nat}{y:α}(h:i<xs.length):(xs.map g).take i++[g y]++(xs.map g).drop (i+1)=(xs.set i y).map g:=by
 rw[List.map_set,List.set_eq_take_append_cons_drop,if_pos (by simpa using h)];simp
namespace Tk
def o5 (l:List Nat)(i:Nat):List Nat:=l.take i++TM (4-i) 0
theorem afh{l:List Nat}{i q:Nat}(h:l[i]?=some q)(hl:l.length<=4):(o5 l i).set i q=o5 l (i+1):=by
 have hi:=eB h;unfold o5;rw[UN _ _ (by simp;omega),show i-(l.take i).length=0 by simp;omega,show 4-i=(4-(i+1))+1 by omega,Wu,TZ,Wx,h];simp
theorem afg{l:List Nat}{i:Nat}(hi:i<=l.length)(hl:l.length<=4):(o5 l i).length=4:=by simp[o5];omega
theorem aff{l:List Nat}:o5 l l.length=l++TM (4-l.length) 0:=by simp[o5]
end Tk
theorem Rh{H L:List aa}{c c':aa}(h:bM (H++(L++[c])))(hc:∀n,eR n c'):bM (H++(L++[c'])):=λz hz=>by
 have hl:(H++(L++[c'])).length=(H++(L++[c])).length:=by simp
 rw[hl];rcases SS.1 hz with h'|h'
 ·exact h z (Te _ h')
 ·rcases SS.1 h' with h'|h'
  ·exact h z (S4 _ (Te _ h'))
  ·rw[S5.1 h'];exact hc _
theorem aaT(l:List Nat)(t n:Nat):eR n (.cells (l.map λn=>wv n) t):=by
 intro a ha;obtain⟨x,_,rfl⟩:=Tm.1 ha;exact .val _
theorem am5(l:List Int)(t n:Nat):eR n (.cells (l.map iv) t):=by
 intro a ha;obtain⟨x,_,rfl⟩:=Tm.1 ha;exact .val _
section
variable {lv:Bool}
theorem ahQ{H:List aa}{k kp:AV->List aa->Prop}{x:ak}{h:List Int}(hk:k (.fn (.func 106) [] [.op (H.length+1) 0,.op H.length 0]) (H++[.cells x.l 76,.cells (h.map iv) 83])):ba lv SC 92 H [x.av,.agg (h.map iv)] k kp:=by
 refine bE (rs:=[.tmp 4]) (nt:=6) Tryz.f92 λhH hA=> ?_;simp only[bk,SW,ak.av];refine ai ?_;refine aj ?_;simp only[seval,T_,UA,Ug,TP];refine aX ?_;exact bS hk
theorem ag1{x:ak}{h:List Int}{N ir ih:Nat}{yv pv:AV}{S:Type}{f:S->List Int->dt S}{Gf:S->List aa}{I:S->Prop}{A:List Int->Prop}{σ:S}{k kp:AV->List aa->Prop}(hx:x.Ok)(hh:l7 h)(hY:jr lv SC yv f Gf N I A pv)(hr:∀σ L,(Gf σ++L)[ir]?=some (.cells x.l 76))(hi:∀σ L,(Gf σ++L)[ih]?=some (.cells (h.map iv) 83))
  (na:∀n,Lt n pv) (hI:I σ) (hA:∀a∈(fJ x h).map (dM h),A a) (hk:fL Gf pv k kp [] (bz f ((fJ x h).map (dM h)) σ)):ba lv SC 106 (Gf σ) [yv,.op ih 0,.op ir 0] k kp:=by
 refine bE (rs:=[]) (nt:=45) Tryz.f106 λhH tD=> ?_;simp only[bk,SW];have hN:=hY.len σ;have m9:=hx.cZ;have bP:x.l=[iv x.first,iv x.hours,iv x.an,dS x.seen,aZ x.pieces,aZ x.aB]:=rfl;obtain⟨a,b,c,d,rfl,ha,hb,hc,hd,hs⟩:=hh.out;have okH:∀L:List aa,(∀z∈L,∀n,eR n z)->bM (Gf σ++L):=λL hL z hz=>by
  rcases SS.1 hz with h|h
  ·exact(hH z h).mono (by simp)
  ·exact hL z h _
 refine aj ?_;simp only[seval,hY.parts];refine aj ?_;simp only[seval,hi];refine ai ?_;refine cF ?_;refine gA 4 (λi:Nat=>[(13,iv i)]) (λi=>Gf σ++[.cells [yv] 132,.cells ((iK [a,b,c,d,0,0,0,0,0,0,0] 4 i (-1)).map iv) 86]) (λi=>True) (λ_ _=>rfl) (by simp only[seval];simp[bN,Wk.refl]) rfl (λ_ _ _=>by simp) trivial (λbT cW i b_ _ R hR=> ?_);refine ai ?_;refine aE ?_;refine⟨λhc=> ?_,λhc=> ?_⟩
 ·have bt:i<4:=by omega
  have b4:(0<=(i:Int)/\(i:Int)<4)=True:=by simp;omega
  have bQ:SF.wrap ((i:Int)+1)=((i+1:Nat):Int):=by rw[bC _ (by omega)];rfl
  have lJ:(iK [a,b,c,d,0,0,0,0,0,0,0] 4 i (-1)).length=11:=D6 (by show 4+i<=11;omega);have lK:((iK [a,b,c,d,0,0,0,0,0,0,0] 4 i (-1)).map iv).length=11:=by rw[Tn,lJ]
  refine aN ?_;refine ai ?_;refine aj ?_;simp only[seval,b4,lK];refine⟨by omega,?_⟩;rw[vV (show 4+i<(iK [a,b,c,d,0,0,0,0,0,0,0] 4 i (-1)).length by omega),IG (by show 4+i<11;omega)];refine aj ?_;simp only[seval,bQ];exact hR _ ⟨bt,trivial,dn⟩
 have:i=4:=by omega
 subst this;clear hc b_;refine b9 ?_;refine ai ?_;rw[show iK [a,b,c,d,0,0,0,0,0,0,0] 4 4 (-1)=[a,b,c,d, -1, -1, -1, -1,0,0,0]from rfl];refine cF ?_;refine gA 3 (λi:Nat=>[(20,iv i)]) (λi=>Gf σ++[.cells [yv] 132,.cells ((iK [a,b,c,d, -1, -1, -1, -1,0,0,0] 8 i (-1)).map iv) 86]) (λi=>True) (λ_ _=>rfl) (by simp only[seval];simp[bN,Wk.refl]) rfl (λ_ _ _=>by simp) trivial (λbT cW i b_ _ R hR=> ?_);refine ai ?_;refine aE ?_;refine⟨λhc=> ?_,λhc=> ?_⟩
 ·have bt:i<3:=by omega
  have b4:(0<=(i:Int)/\(i:Int)<3)=True:=by simp;omega
  have bQ:SF.wrap ((i:Int)+1)=((i+1:Nat):Int):=by rw[bC _ (by omega)];rfl
  have lJ:(iK [a,b,c,d, -1, -1, -1, -1,0,0,0] 8 i (-1)).length=11:=D6 (by show 8+i<=11;omega);have lK:((iK [a,b,c,d, -1, -1, -1, -1,0,0,0] 8 i (-1)).map iv).length=11:=by rw[Tn,lJ]
  refine aN ?_;refine ai ?_;refine aj ?_;simp only[seval,b4,lK];refine⟨by omega,?_⟩;rw[vV (show 8+i<(iK [a,b,c,d, -1, -1, -1, -1,0,0,0] 8 i (-1)).length by omega),IG (by show 8+i<11;omega)];refine aj ?_;simp only[seval,bQ];exact hR _ ⟨bt,trivial,dn⟩
 have:i=3:=by omega
 subst this;clear hc b_;refine b9 ?_;rw[show iK [a,b,c,d, -1, -1, -1, -1,0,0,0] 8 3 (-1)=[a,b,c,d, -1, -1, -1, -1, -1, -1, -1]from rfl];refine ai ?_;refine aj ?_;simp only[seval,hr,bP,aZ];refine cF ?_;refine gA x.pieces.length (λi:Nat=>[(31,iv i)]) (λi=>Gf σ++[.cells [yv] 132,.cells ([a,b,c,d, -1, -1, -1, -1, -1, -1, -1].map iv) 86,.cells ((o5 (x.pieces.map (bW [a,b,c,d])) i).map λn=>wv n) 80]) (λi=>True) (λ_ _=>rfl) (by simp only[seval];simp[bN,Wk.refl]) rfl (λ_ _ _=>by simp) trivial (λbT cW i b_ _ R hR=> ?_);refine ai ?_;refine aE ?_;refine⟨λhc=> ?_,λhc=> ?_⟩
 ·have bt:i<x.pieces.length:=by omega
  obtain⟨y,hy⟩:=cC bt;have uc:(x.pieces.map (bW [a,b,c,d]))[i]?=some (bW [a,b,c,d] y):=by rw[To,hy];rfl
  have b4:(0<=(i:Int)/\(i:Int)<4)=True:=by simp;omega
  have bQ:SF.wrap ((i:Int)+1)=((i+1:Nat):Int):=by rw[bC _ (by omega)];rfl
  have cJ:(o5 (x.pieces.map (bW [a,b,c,d])) i).length=4:=afg (by simp;omega) (by simpa using m9);have vk:((o5 (x.pieces.map (bW [a,b,c,d])) i).map λn=>wv n).length=4:=by rw[Tn,cJ]
  refine aN ?_;refine aj ?_;simp only[seval,Gz hy,je bt];refine aj ?_;simp only[seval,hi,b4];refine aM ((D5 (h:=[a,b,c,d]) (y:=y) hh ?_));(try simp only[seval,b4,vk]);refine⟨by omega,?_⟩;rw[MB (g:=λn=>wv n) (show i<(o5 (x.pieces.map (bW [a,b,c,d])) i).length by omega),afh uc (by simpa using m9)];refine aj ?_;simp only[seval,bQ];exact hR _ ⟨bt,trivial,zL (pI rfl rfl) (by simp only[seval];simp[bN,Wk.refl]) (Rh (L:=[_,_]) bT (aaT _ _)) (by simp[eE])⟩
 have:i=x.pieces.length:=by omega
 subst this;clear hc b_;refine b9 ?_;refine ai ?_;refine aj ?_;simp only[seval,T_,UA,Ug,TP];refine ai ?_;have qJ:o5 (x.pieces.map (bW [a,b,c,d])) x.pieces.length=x.pieces.map (bW [a,b,c,d])++TM (4-x.pieces.length) 0:=by
  have:=aff (l:=x.pieces.map (bW [a,b,c,d]));simpa using this
 refine aM (?_);rw[hN];have qY:∀n,Lt n (.aJ []):=λn=>by simp[jm]
 have hT0:∀dY,oe [a,b,c,d] x.pieces.length 0 [] dY->True:=λ_ _=>trivial;refine ag3 (x:=x) (h:=[a,b,c,d]) hx rfl hY hr qJ x.pieces.length 0 0 [] [a,b,c,d, -1, -1, -1, -1, -1, -1, -1] σ [] _ _ rfl (by decide) rfl ⟨rfl,rfl,?_⟩ hI hA (λdY r6=> ?_)
 ·have:x.pieces.length=0\/x.pieces.length=1\/x.pieces.length=2\/x.pieces.length=3\/x.pieces.length=4:=by omega
  rcases this with e|e|e|e|e<;>rw[e]<;>rfl
 change cP Gf pv _ _ _ (bz f ((fJ x [a,b,c,d]).map (dM [a,b,c,d])) σ);cases hf:bz f ((fJ x [a,b,c,d]).map (dM [a,b,c,d])) σ with
 |go s=>
  rw[hf]at hk;simp only[cP,fL]at hk⊢;rw[SY]at hk;(try simp only[seval]);rw[<- hN];exact us hY hH qY hk
 |stop s=>
  rw[hf]at hk;simp only[cP,fL]at hk⊢;rw[SY]at hk;(try simp only[seval]);rw[<- hN];exact us hY hH qY hk
 |bad s=>
  rw[hf]at hk;simp only[cP,fL]at hk⊢;rw[SY]at hk;rw[<- hN];exact us hY hH na hk
end
open Go.Conc Go.Proofs Go.Gg.Tk
namespace Tk
structure ny (h:List Int)(ns:List Nat)(k s:Nat)(o:List Nat)(tc:List Int):Prop where
 len:tc.length=11
 pre:tc.take (8+s)=h++kL 4 ns++o.map λn:Nat=>(n:Int)
 tl:tc.drop (8+k)=TM (3-k) (-1)
theorem ny.all{h:List Int}{ns:List Nat}{k:Nat}{o:List Nat}{tc:List Int}(ho:o.length=k)(n:ny h ns k k o tc):tc=dp h ns o:=by
 have:=Vg (8+k) tc;rw[n.pre,n.tl]at this;rw[<- this];unfold dp
 conv=>rhs;unfold kL
 rw[ho,SD];rfl
theorem zH{k:Nat}{l:List Nat}(h:l.length<=k):(kL k l).length=k:=by simp[kL];omega
theorem ny.back{h:List Int}{ns:List Nat}{k s:Nat}{o:List Nat}{n:Nat}{tc:List Int}(h4:h.length=4)(hn:ns.length<=4)(ho:o.length=s)(q:ny h ns k (s+1) (o++[n]) tc):ny h ns k s o tc:=by
 refine⟨q.len,?_,q.tl⟩;have e:tc.take (8+s)=(tc.take (8+(s+1))).take (8+s):=by rw[U0];congr 1;omega
 have hp:=zH hn;rw[e,q.pre,TF,<- SD,TA (by simp[h4,ho,hp];omega),SX (by simp[h4,ho,hp];omega)]
theorem ny.next{h:List Int}{ns:List Nat}{k s:Nat}{o:List Nat}{n:Nat}{tc:List Int}(hp:s<k)(hk:k<=3)(q:ny h ns k s o tc):ny h ns k (s+1) (o++[n]) (tc.set (8+s) (n:Int)):=by
 refine⟨by rw[TQ];exact q.len,?_,?_⟩
 ·rw[show 8+(s+1)=(8+s)+1 by omega,MO (by rw[q.len];omega),q.pre];simp
 ·rw[ON (by omega)];exact q.tl
theorem ny.num{h:List Int}{ns:List Nat}{k s p:Nat}{o:List Nat}{tc:List Int}(h4:h.length=4)(hn:ns.length<=4)(hp:p<ns.length)(q:ny h ns k s o tc):tc[4+p]?=some ((ns.getD p 0:Nat):Int):=by
 have h1:(tc.take (8+s))[4+p]?=some ((ns.getD p 0:Nat):Int):=by
  rw[q.pre,SD,Tj (by omega),h4,show 4+p-4=p by omega,SZ (by rw[zH hn];omega)];unfold kL;rw[SZ (by simpa using hp),To,SE,SP hp];rfl
 rwa [Uc,if_pos (by omega)]at h1
theorem ank{h:List Int}{ns:List Nat}{k q:Nat}{qs:List Nat}{u:Nat}{o:List Nat}:(lW k ns (q::qs) u o).map (dp h ns)=(SV k).flatMap λp=>if u.testBit p|| !q.testBit (ns.getD p 0)then[]else(lW k ns qs (u|||2^p) (o++[p])).map (dp h ns):=by
 rw[lW,Vs];congr 1;funext n;split<;>rfl
end Tk
open Go.Conc Go.Proofs Go.Gg.Tk
section
variable {lv:Bool}
def xE (yv:AV)(N ir it is:Nat):List aa:=[.cells [yv] 132,.cells [.fn (.func 109) [] [.op ir 0,.op N 0,.op it 0,.op is 0,.op (N+1) 0]] 157]
theorem ag5{x:ak}{h:List Int}{ns qs:List Nat}{N ir it is:Nat}{yv pv:AV}{S:Type}{f:S->List Int->dt S}{Gf:List Int->S->List aa}{I:S->Prop}{A:List Int->Prop}(hx:x.Ok)(h4:h.length=4)(iO:ns.length=x.pieces.length)(hY:∀tc,jr lv SC yv f (Gf tc) N I A pv)(hr:∀tc σ L,(Gf tc σ++L)[ir]?=some (.cells x.l 76))
  (ht:∀tc σ L,(Gf tc σ++L)[it]?=some (.cells (tc.map iv) 86)) (dL:∀tc dY σ L,(Gf tc σ++L).set it (.cells (dY.map iv) 86)=Gf dY σ++L) (hs:∀tc σ L,(Gf tc σ++L)[is]?=some (.cells (qs.map λn=>wv n) 81)) (ze:∃r,qs=x.aB.map (bW h)++r) (xe:qs.length=3):
  ∀(d s u:Nat)(o:List Nat)(tc:List Int)(σ:S)(M:List aa)(k kp:AV->List aa->Prop),d+s=x.aB.length->u<65536->o.length=s->ny h ns x.aB.length s o tc->I σ->(∀a∈(lW x.pieces.length ns ((x.aB.map (bW h)).drop s) u o).map (dp h ns),A a)->
   (∀dY,ny h ns x.aB.length s o dY->cP (Gf dY) pv k kp (xE yv N ir it is++M) (bz f ((lW x.pieces.length ns ((x.aB.map (bW h)).drop s) u o).map (dp h ns)) σ))->
   ba lv SC 109 (Gf tc σ++(xE yv N ir it is++M)) [iv s,wv u,.op ir 0,.op N 0,.op it 0,.op is 0,.op (N+1) 0] k kp:=by
 intro d;induction d with
 |zero=>
  intro s u o tc σ M k kp oB hu ho hT hI hA hk;refine bE (rs:=[.tmp 9]) (nt:=54) ag' λhH tD=> ?_;simp only[bk,SW];have bP:x.l=[iv x.first,iv x.hours,iv x.an,dS x.seen,aZ x.pieces,aZ x.aB]:=rfl;have g0:∀(tc:List Int)(σ:S)(L:List aa),(Gf tc σ++L)[N]?=L[0]?:=λtc σ L=>(hY tc).get σ L 0;have dc:s=x.aB.length:=by omega
  have vp:(x.aB.map (bW h)).drop s=[]:=TU (by simp;omega);rw[vp,lW]at hA hk;rw[Y']at hA hk;rw[Mt]at hk;have xh:tc=dp h ns o:=by subst dc;exact hT.all ho
  have jK:(tc.map iv).length=11:=by rw[Tn,hT.len]
  refine ai ?_;refine aj ?_;simp only[seval,hr,bP,aZ];refine aE ?_;refine⟨λhc=> ?_,λhc=>by exfalso;simp at hc;omega⟩;refine aj ?_;simp only[seval,g0,ht,xE,jK];rw[SX (i:=11) (l:=tc.map iv) (by rw[jK];exact SQ _)];rw[<- xh]at hA hk;have aI:=hk tc hT;refine wy ((hY tc).call σ tc (xE yv N ir it is++M) _ _ hI (hA _ (by simp)) ?_);cases hf:f σ tc with
  |go σ'=>
   rw[hf]at aI;simp only[cP]at aI⊢;(try simp only[seval]);refine aX ?_;exact bS aI
  |stop σ'=>
   rw[hf]at aI;simp only[cP]at aI⊢;(try simp only[seval]);refine aX ?_;exact bS aI
  |bad σ'=>
   rw[hf]at aI;simp only[cP]at aI⊢;exact bS aI
 |succ d ihd=>
  intro s u o tc σ M k kp oB hu ho hT hI hA hk;refine bE (rs:=[.tmp 9]) (nt:=54) ag' λhH tD=> ?_;simp only[bk,SW];have bP:x.l=[iv x.first,iv x.hours,iv x.an,dS x.seen,aZ x.pieces,aZ x.aB]:=rfl;have g1:∀(tc:List Int)(σ:S)(L:List aa),(Gf tc σ++L)[N+1]?=L[1]?:=λtc σ L=>(hY tc).get σ L 1;have m9:=hx.cZ;have xf:=hx.eP;obtain⟨y,hy⟩:=cC (xs:=x.aB) (i:=s) (by omega);have uc:(x.aB.map (bW h))[s]?=some (bW h y):=by rw[To,hy];rfl
  have m_:qs[s]?=some (bW h y):=by obtain⟨r,e⟩:=ze;rw[e,SZ (by simp;omega)];exact uc
  have lO:bW h y<65536:=Wn (Pk h y) (by decide);have aC:¬(s:Int)=(x.aB.length:Int):=by omega
  rw[uZ uc,ank]at hA hk;generalize hg:(λp=>if u.testBit p|| !(bW h y).testBit (ns.getD p 0)then[]else(lW x.pieces.length ns ((x.aB.map (bW h)).drop (s+1)) (u|||2^p) (o++[p])).map (dp h ns))=g at hA hk;refine ai ?_;refine aj ?_;simp only[seval,hr,bP,aZ];refine aE ?_;refine⟨λhc=>by exfalso;exact aC (by simpa using hc),λhc=> ?_⟩;refine aN ?_;refine aj ?_;simp only[seval,hr,bP,aZ];refine cF ?_;refine yc (measure λm:Nat×S×List Int=>x.pieces.length-m.1).wf (λm=>[(24,iv (m.1:Nat))]) (λm=>Gf m.2.2 m.2.1++(xE yv N ir it is++M)) (λm=>m.1<=x.pieces.length/\bz f ((SV m.1).flatMap g) σ=.go m.2.1/\ny h ns x.aB.length s o m.2.2) (0,σ,tc) (λ_ _=>rfl) (by intro p hp;simp at hp;subst hp;exact⟨_,rfl,Wk.refl _⟩) rfl (λ_ _=>by simp[xE,(hY _).len]) ⟨by omega,rfl,hT⟩ (λbT cW m ay R hR=> ?_);obtain⟨i,τ,tq⟩:=m;obtain⟨hi,bF,kV⟩:=ay;replace hi:i<=x.pieces.length:=hi;replace bF:bz f ((SV i).flatMap g) σ=.go τ:=bF;replace kV:ny h ns x.aB.length s o tq:=kV;refine ai ?_;refine aE ?_;refine⟨λhc=> ?_,λhc=> ?_⟩
  ·have bt:i<x.pieces.length:=(by omega);have bQ:SF.wrap ((i:Int)+1)=((i+1:Nat):Int):=(by rw[bC _ (by omega)];rfl);have hws:SF.wrap ((s:Int)+1)=((s+1:Nat):Int):=(by rw[bC _ (by omega)];rfl);have qM:=IP g bt;have sx:=IQ g i;have Bm:I τ:=zM (A:=A) (hY tc).inv _ σ τ (λa ha=>hA a (by rw[qM];exact Te _ ha)) hI bF;have b3:(0<=(s:Int)/\(s:Int)<3)=True:=(by simp;omega);have b4:(0<=(i:Int)/\(i:Int)<4)=True:=(by simp;omega);have CQ:(u.testBit i|| !(bW h y).testBit (ns.getD i 0))=true->g i=[]:=λe=>(by rw[<- hg];exact if_pos e);have IX:(u.testBit i|| !(bW h y).testBit (ns.getD i 0))=false->g i=(lW x.pieces.length ns ((x.aB.map (bW h)).drop (s+1)) (u|||2^i) (o++[i])).map (dp h ns):=λe=>(by rw[<- hg];exact if_neg (by rw[e];simp));have Re:=kV.num h4 (by omega) (show i<ns.length by omega);refine aN ?_;refine ai ?_;refine eo 14 ?_;simp only[seval,ht,hs,b3,b4,yn m_,kv Re];refine ie (bv (u.testBit i)) (dC (wH hu ⟨rfl,rfl⟩)) ?_;(try simp only[seval]);refine wK (λh2=> ?_) (λh2=> ?_)
   ·(try simp only[seval,ht,hs,b3,b4,yn m_,kv Re]);refine ie (bv ((bW h y).testBit (ns.getD i 0))) (dC (wH lO ⟨rfl,rfl⟩)) ?_;(try simp only[seval]);refine aE ?_;refine⟨λh3=> ?_,λh3=> ?_⟩
    ·have aL:=CQ (by rw[h2];simpa using h3);refine b9 ?_;refine aj ?_;simp only[seval,bQ];exact hR _ ⟨(i+1,τ,tq),(by show x.pieces.length-(i+1)<x.pieces.length-i;omega),⟨by omega,by rw[sx,aL,SY];exact bF,kV⟩,dn⟩
    ·have aL:=IX (by rw[h2];simpa using h3);have jK:(tq.map iv).length=11:=(by rw[Tn,kV.len]);have HM:8+s<tq.length:=(by rw[kV.len];omega);refine aN ?_;refine aj ?_;simp only[seval,ht,b3,jK];refine⟨by omega,?_⟩;rw[vV HM,dL];refine eo 6 ?_;simp only[seval,g1,xE];refine ie (wv (u|||2^i)) (dC (tx hu (show i<16 by omega) ⟨rfl,rfl⟩)) ?_;rw[hws];have lj:u|||2^i<65536:=oS hu (v5 (by omega));refine aM ((ihd (s+1) (u|||2^i) (o++[i]) (tq.set (8+s) (i:Int)) τ M _ _ (by omega) lj (by simp[ho]) (kV.next (by omega) xf) Bm (λa ha=>hA a (by rw[qM,aL];exact S4 _ (Te _ ha))) (λdY r6=> ?_)));have Bq:=r6.back h4 (by omega) ho;have zn:bz f ((SV x.pieces.length).flatMap g) σ=match bz f (g i) τ with
       |.go s'=>bz f ((Ub (i+1) (x.pieces.length-(i+1))).flatMap g) s'
       |r=>r:=by
      rw[qM,pO,bF];exact pO f (g i) _ τ
     rw[<- aL];have aI:=hk dY Bq;rw[zn]at aI;cases hf:bz f (g i) τ with
     |go τ'=>
      simp only[cP];(try simp only[seval]);refine aE ?_;refine aN ?_;refine aj ?_;simp only[seval,bQ];exact hR _ ⟨(i+1,τ',dY),(by show x.pieces.length-(i+1)<x.pieces.length-i;omega),⟨by omega,by rw[sx,pO,bF];exact hf,Bq⟩,dn⟩
     |stop τ'=>
      rw[hf]at aI;simp only[cP]at aI⊢;(try simp only[seval]);refine aE ?_;refine ai ?_;refine aX ?_;exact bS aI
     |bad τ'=>
      rw[hf]at aI;simp only[cP]at aI⊢;exact bS aI
   ·(try simp only[seval]);refine aE ?_;have aL:=CQ (by rw[show u.testBit i=true by simpa using h2];rfl);refine b9 ?_;refine aj ?_;simp only[seval,bQ];exact hR _ ⟨(i+1,τ,tq),(by show x.pieces.length-(i+1)<x.pieces.length-i;omega),⟨by omega,by rw[sx,aL,SY];exact bF,kV⟩,dn⟩
  ·have dl:i=x.pieces.length:=(by omega);subst dl;have aI:=hk tq kV;rw[bF]at aI;refine b9 ?_;refine ai ?_;refine aX ?_;exact bS aI
theorem ahR{H:List aa}{k kp:AV->List aa->Prop}{x:ak}{tc:List Int}{qs:List Nat}(hk:k (.fn (.func 108) [] [.op H.length 0,.op (H.length+1) 0,.op (H.length+2) 0]) (H++[.cells x.l 76,.cells (tc.map iv) 86,.cells (qs.map λn=>wv n) 81])):ba lv SC 93 H [x.av,.agg (tc.map iv),.agg (qs.map λn=>wv n)] k kp:=by
 refine bE (rs:=[.tmp 6]) (nt:=8) Tryz.f93 λhH hA=> ?_;simp only[bk,SW,ak.av];refine ai ?_;refine aj ?_;simp only[seval,T_,UA,Ug,TP];refine aX ?_;exact bS hk
theorem ag4{x:ak}{h:List Int}{ns qs:List Nat}{N ir it is:Nat}{yv pv:AV}{S:Type}{f:S->List Int->dt S}{Gf:List Int->S->List aa}{I:S->Prop}{A:List Int->Prop}{tc:List Int}{σ:S}{k kp:AV->List aa->Prop}(hx:x.Ok)(h4:h.length=4)(iO:ns.length=x.pieces.length)(hY:∀tc,jr lv SC yv f (Gf tc) N I A pv)(hr:∀tc σ L,(Gf tc σ++L)[ir]?=some (.cells x.l 76))
  (ht:∀tc σ L,(Gf tc σ++L)[it]?=some (.cells (tc.map iv) 86)) (dL:∀tc dY σ L,(Gf tc σ++L).set it (.cells (dY.map iv) 86)=Gf dY σ++L) (hs:∀tc σ L,(Gf tc σ++L)[is]?=some (.cells (qs.map λn=>wv n) 81)) (ze:∃r,qs=x.aB.map (bW h)++r) (xe:qs.length=3)
  (ay:∀m tc dY σ,(∀z∈Gf tc σ,eR m z)->∀z∈Gf dY σ,eR m z) (na:∀n,Lt n pv) (xh:tc=dM h ns) (hI:I σ) (hA:∀a∈(gS x h ns).map (dp h ns),A a) (hk:∀dY,dY.length=11->fL (Gf dY) pv k kp [] (bz f ((gS x h ns).map (dp h ns)) σ)):ba lv SC 108 (Gf tc σ) [yv,.op ir 0,.op it 0,.op is 0] k kp:=by
 refine bE (rs:=[]) (nt:=9) Tryz.f108 λhH tD=> ?_;simp only[bk,SW];have hN:=(hY tc).len σ;have m9:=hx.cZ;have xf:=hx.eP;refine aj ?_;simp only[seval,(hY tc).parts];refine ai ?_;refine aj ?_;simp only[seval,T_,UA,Ug,TP];refine ai ?_;refine aM (?_);rw[hN];have qY:∀n,Lt n (.aJ []):=λn=>by simp[jm]
 have dc:=zH (k:=4) (l:=ns) (by omega);have cut:∀(dY:List Int)(σ':S)(L:List aa)(a:AV)(k:AV->List aa->Prop),(∀n,Lt n a)->k a (Gf dY σ')->cy (Gf tc σ).length (Gf dY σ'++L) a k:=λdY σ' L a k ha aI=>by
  refine jy (H':=Gf dY σ') (Wk.refl _) rfl (by rw[(hY dY).len,(hY tc).len];exact SQ _) ?_ (ha _) aI;intro z hz;have h1:∀z∈Gf dY σ,eR N z:=ay N tc dY σ (λw hw=>by have:=hH w hw;rwa [hN]at this);rw[(hY dY).len];exact(hY dY).ok N σ σ' h1 z hz
 refine ag5 (x:=x) (h:=h) (ns:=ns) (qs:=qs) hx h4 iO hY hr ht dL hs ze xe x.aB.length 0 0 [] tc σ [] _ _ rfl (by decide) rfl ⟨?_,?_,?_⟩ hI hA (λdY r6=> ?_)
 ·rw[xh];simp[dM,h4,dc]
 ·rw[xh];unfold dM;rw[List.map_nil,SY,TA (by simp[h4,dc]),SX (by simp[h4,dc])]
 ·rw[xh];unfold dM;rw[Vt,TU (by simp[h4,dc]),UD];have:(h++kL 4 ns).length=8:=by simp[h4,dc]
  rw[this];have:x.aB.length=0\/x.aB.length=1\/x.aB.length=2\/x.aB.length=3:=by omega
  rcases this with e|e|e|e<;>rw[e]<;>rfl
 have hk:=hk dY r6.len;change cP (Gf dY) pv _ _ _ (bz f ((gS x h ns).map (dp h ns)) σ);cases hf:bz f ((gS x h ns).map (dp h ns)) σ with
 |go s=>
  rw[hf]at hk;simp only[cP,fL]at hk⊢;rw[SY]at hk;(try simp only[seval]);rw[<- hN];exact cut _ _ _ _ _ qY hk
 |stop s=>
  rw[hf]at hk;simp only[cP,fL]at hk⊢;rw[SY]at hk;(try simp only[seval]);rw[<- hN];exact cut _ _ _ _ _ qY hk
 |bad s=>
  rw[hf]at hk;simp only[cP,fL]at hk⊢;rw[SY]at hk;rw[<- hN];exact cut _ _ _ _ _ na hk
end
section
variable {lv:Bool}{P:SJ}{s:AS}{ms:List Nat}{bs:List UV}{nt:Nat}
theorem aeZ{f:Tg}{ps:Array Tmp}{bI body:T9}{fv:AV}{Φ:am->AS->List Nat->Prop}(hf:s.ev f=some fv)
  (h:∀(l fn:Nat)(T:List (Nat×AV))(ag bo:T9),T=s.T->ag=bI->bo=body->iG lv P fv (s.H++[.obj (.deferred (some [])),.loop l .ready none fn T nt ps ag bo s.H.length]) [.fn (.yield l) [] []]
   (λ_ H'=>∃st pe fi T' iT fY fM eZ fN,H'[s.H.length+1]?=some (.loop l st pe fi T' iT fY fM eZ fN)/\st≠ .busy/\rH Φ ⟨s.T,H'.set (s.H.length+1) .gone⟩ (s.H.length::ms) pe)
   (λpv H'=>Φ (.panic pv) ⟨s.T,H'⟩ (s.H.length::ms))):l6 lv P nt (.rangeFunc f ps bI body) s ms Φ:=aeY hf λl fn=>h l fn _ _ _ rfl rfl rfl
theorem HK{f:Tg}{ps:Array Tmp}{bI body:T9}{fv:AV}{Φ:am->AS->List Nat->Prop}(hf:s.ev f=some fv)
  (h:∀(l fn:Nat)(T:List (Nat×AV))(ag bo:T9),T=s.T->ag=bI->bo=body->iG lv P fv (s.H++[.obj (.deferred (some [])),.loop l .ready none fn T nt ps ag bo s.H.length]) [.fn (.yield l) [] []]
   (λ_ H'=>∃st pe fi T' iT fY fM eZ fN,H'[s.H.length+1]?=some (.loop l st pe fi T' iT fY fM eZ fN)/\st≠ .busy/\rH Φ ⟨s.T,H'.set (s.H.length+1) .gone⟩ (s.H.length::ms) pe)
   (λpv H'=>Φ (.panic pv) ⟨s.T,H'⟩ (s.H.length::ms))):jT lv P nt bs (.rangeFunc f ps bI body) s ms Φ:=ae2 hf λl fn=>h l fn _ _ _ rfl rfl rfl
theorem DJ{f:Tg}{ps:Array Tmp}{bI body:T9}{fv:AV}{Φ:am->AS->Prop}{l0:Nat}(FC:Nat){IR LM df:Nat}{MG:Z9}{L1:Option T9}{T0:List (Nat×AV)}{Mk:Array Tmp}{HC HP:T9}(hf:s.ev f=some fv)(h0:s.H[FC]?=some (.loop l0 MG L1 IR T0 LM Mk HC HP df))
  (h:∀(l fn:Nat)(T:List (Nat×AV))(ag bo:T9),T=s.T->ag=bI->bo=body->iG lv P fv (s.H++[.loop l .ready none fn T nt ps ag bo df]) [.fn (.yield l) [] []]
   (λ_ H'=>∃st pe fi T' iT fY fM eZ fN,H'[s.H.length]?=some (.loop l st pe fi T' iT fY fM eZ fN)/\st≠ .busy/\sY Φ ⟨s.T,H'.set s.H.length .gone⟩ pe)
   (λpv H'=>Φ (.panic pv) ⟨s.T,H'⟩)):aU lv P (some l0) nt (.rangeFunc f ps bI body) s Φ:=aeN hf h0 λl fn=>h l fn _ _ _ rfl rfl rfl
end
section
variable {P:SJ}
theorem Gj(Φ:am->AS->List Nat->Prop)(s:AS)(ms:List Nat):rH Φ s ms none=Φ .normal s ms:=by rw[rH]
theorem anJ(Φ:am->AS->List Nat->Prop)(s:AS)(ms:List Nat):rH Φ s ms (some .ret)=Φ .ret s ms:=by rw[rH]
theorem Gk(Φ:am->AS->Prop)(s:AS):sY Φ s none=Φ .normal s:=by rw[sY]
theorem anL(Φ:am->AS->Prop)(s:AS):sY Φ s (some .ret)=Φ .ret s:=by rw[sY]
theorem anK(Φ:am->AS->Prop)(s:AS)(i:Nat):sY Φ s (some (.exit i))=Φ (.exit i) s:=by rw[sY]
theorem afn(id:Nat)(Φ:am->AS->List Nat->Prop)(s:AS)(ms:List Nat):am.o6 id Φ .ret s ms=Φ .ret s ms:=by rw[am.o6];simp
theorem afm(id:Nat)(Φ:am->AS->List Nat->Prop)(pv:AV)(s:AS)(ms:List Nat):am.o6 id Φ (.panic pv) s ms=Φ (.panic pv) s ms:=by rw[am.o6];simp
theorem ap2(Φ:am->AS->List Nat->Prop)(pv:AV)(s:AS)(ms:List Nat):am.ux Φ (.panic pv) s ms=Φ (.panic pv) s ms:=by rw[am.ux];simp
theorem aqH(K:AS->List Nat->Prop)(Φ:am->AS->List Nat->Prop)(pv:AV)(s:AS)(ms:List Nat):am.rn K Φ (.panic pv) s ms=Φ (.panic pv) s ms:=by rw[am.rn];simp
theorem aij(rs:List UL)(n:Nat)(k kp:AV->List aa->Prop)(s:AS)(ms:List Nat):rD P rs n k kp .normal s ms=ao (ii ms s.H) λH'=>ao (gG P ⟨s.T,H'⟩ rs) λl=>cy n H' (iD l) k:=by rw[rD]
theorem aik(rs:List UL)(n:Nat)(k kp:AV->List aa->Prop)(pv:AV)(s:AS)(ms:List Nat):rD P rs n k kp (.panic pv) s ms=ao (ii ms s.H) λH'=>cy n H' pv kp:=by rw[rD]
attribute [seval] afn afm ap2 aqH aij aik
end
inductive Lp where
 |ready
 |ret
 |exit (i:Nat)
 |busy
def Lp.st:Lp->Z9
 |.ready=> .ready
 |.ret=> .done
 |.exit _=> .done
 |.busy=> .busy
def Lp.pe:Lp->Option T9
 |.ready=>none
 |.ret=>some .ret
 |.exit i=>some (.exit i)
 |.busy=>none
namespace Tk
def dt.map {S T:Type}(g:S->T):dt S->dt T
 |.go s=> .go (g s)
 |.stop s=> .stop (g s)
 |.bad s=> .bad (g s)
def dt.fin {S:Type}:dt S->Bool×S
 |.go s=>(false,s)
 |.stop s=>(false,s)
 |.bad s=>(true,s)
end Tk
theorem Mq{S:Type}{Gf:S->List aa}{pv:AV}{k kp:AV->List aa->Prop}{M:List aa}{r r':dt S}(h:r.fin=r'.fin)(hk:fL Gf pv k kp M r):fL Gf pv k kp M r':=by
 cases r<;>cases r'<;>simp only[dt.fin,UZ]at h<;>first
  |(obtain⟨_,rfl⟩:=h;exact hk)
  |(exact absurd h.1 (by decide))
end Go.Gg
namespace Go.Gg.Tk
open Go.Gg
def iE {S:Type}(f:S->List Int->dt S)(deep:Int)(m:S×Lp)(b:List Int):dt (S×Lp):=match f m.1 b with
 |.go σ=>if deep=0 then .stop (σ,.ret)else if deep=1 then .stop (σ,.exit 3)else .go (σ,.ready)
 |.stop σ=> .stop (σ,.ret)
 |.bad σ=> .bad (σ,.busy)
def kq {S:Type}:dt (S×Lp)->dt (S×Lp)
 |.go m=> .go (m.1,.ready)
 |.stop (σ,.ret)=> .stop (σ,.ret)
 |.stop (σ,_)=> .go (σ,.ready)
 |.bad m=> .bad (m.1,.busy)
def oV {S:Type}(f:S->List Int->dt S)(deep:Int)(L:List Int->List (List Int))(m:S×Lp)(a:List Int):dt (S×Lp):=kq (bz (iE f deep) (L a) (m.1,.ready))
def re (deep:Int)(ll:List (List (List Int))):List (List Int):=if deep=0 then ll.flatten.take 1 else if deep=1 then(ll.map (·.take 1)).flatten else ll.flatten
theorem aqU{S:Type}{f:S->List Int->dt S}{σ:S}{l:Lp}:∀(M:List (List Int)),bz (iE f 0) M (σ,l)=match M with
  |[]=> .go (σ,l)
  |b::_=>match f σ b with
   |.go τ=> .stop (τ,.ret)
   |.stop τ=> .stop (τ,.ret)
   |.bad τ=> .bad (τ,.busy)
 |[]=>rfl
 |b::M=>by
  simp only[bz,iE];cases f σ b<;>simp
theorem aqV{S:Type}{f:S->List Int->dt S}{σ:S}{l:Lp}:∀(M:List (List Int)),bz (iE f 1) M (σ,l)=match M with
  |[]=> .go (σ,l)
  |b::_=>match f σ b with
   |.go τ=> .stop (τ,.exit 3)
   |.stop τ=> .stop (τ,.ret)
   |.bad τ=> .bad (τ,.busy)
 |[]=>rfl
 |b::M=>by
  simp only[bz,iE];cases f σ b<;>simp
theorem acJ{S:Type}{f:S->List Int->dt S}{deep:Int}(h0:deep≠0)(h1:deep≠1):∀(M:List (List Int))(σ:S),bz (iE f deep) M (σ,.ready)=match bz f M σ with
  |.go τ=> .go (τ,.ready)
  |.stop τ=> .stop (τ,.ret)
  |.bad τ=> .bad (τ,.busy)
 |[],σ=>rfl
 |b::M,σ=>by
  simp only[bz,iE,h0,h1,if_false];cases f σ b with
  |go τ=>exact acJ h0 h1 M τ
  |stop τ=>rfl
  |bad τ=>rfl
theorem acK{S:Type}{f:S->List Int->dt S}{deep:Int}{L:List Int->List (List Int)}:∀(l:List (List Int))(σ:S),((bz (oV f deep L) l (σ,.ready)).map Prod.fst).fin=(bz f (re deep (l.map L)) σ).fin/\(∀m,bz (oV f deep L) l (σ,.ready)=.go m->m.2=.ready)
 |[],σ=>by
  have:re deep (([]:List (List Int)).map L)=[]:=by
   unfold re;by_cases h0:deep=0
   ·rw[if_pos h0];rfl
   ·by_cases h1:deep=1
    ·rw[if_neg h0,if_pos h1];rfl
    ·rw[if_neg h0,if_neg h1];rfl
  rw[this];exact⟨rfl,λm h=>by cases h;rfl⟩
 |a::l,σ=>by
  have ih:=acK (f:=f) (deep:=deep) (L:=L) l;by_cases h0:deep=0
  ·subst h0;have hp:re 0 ((a::l).map L)=(L a++(l.map L).flatten).take 1:=rfl;have kG:re 0 (l.map L)=((l.map L).flatten).take 1:=rfl;rw[hp];simp only[bz,oV,aqU];cases hL:L a with
   |nil=>
    simp only[kq,UD];rw[<- kG];exact ih σ
   |cons b M=>
    simp only[VA,VU,ak'];cases hf:f σ b with
    |go τ=>simp only[kq,bz,hf];exact⟨rfl,λm h=>by cases h⟩
    |stop τ=>simp only[kq,bz,hf];exact⟨rfl,λm h=>by cases h⟩
    |bad τ=>simp only[kq,bz,hf];exact⟨rfl,λm h=>by cases h⟩
  by_cases h1:deep=1
  ·subst h1;have hp:re 1 ((a::l).map L)=(L a).take 1++re 1 (l.map L):=rfl;rw[hp,pO];simp only[bz,oV,aqV];cases hL:L a with
   |nil=>
    simp only[kq,List.take_nil,bz];exact ih σ
   |cons b M=>
    simp only[VU,ak',bz];cases hf:f σ b with
    |go τ=>simp only[kq];exact ih τ
    |stop τ=>simp only[kq];exact⟨rfl,λm h=>by cases h⟩
    |bad τ=>simp only[kq];exact⟨rfl,λm h=>by cases h⟩
  ·have hp:re deep ((a::l).map L)=L a++re deep (l.map L):=(by unfold re;rw[if_neg h0,if_neg h1,if_neg h0,if_neg h1];rfl);rw[hp,pO];simp only[bz,oV];rw[acJ h0 h1];cases hf:bz f (L a) σ with
   |go τ=>simp only[kq];exact ih τ
   |stop τ=>simp only[kq];exact⟨rfl,λm h=>by cases h⟩
   |bad τ=>simp only[kq];exact⟨rfl,λm h=>by cases h⟩
theorem Mu{S α:Type}{F:S->α->dt S}:∀{l:List α}{s s':S},bz F l s=.stop s'->∃t a,F t a=.stop s'
 |[],s,s',h=>by cases h
 |a::l,s,s',h=>by
  simp only[bz]at h;cases hf:F s a with
  |go t=>rw[hf]at h;exact Mu h
  |stop t=>rw[hf]at h;cases h;exact⟨s,a,hf⟩
  |bad t=>rw[hf]at h;cases h
theorem aqT{S:Type}{f:S->List Int->dt S}{deep:Int}{L:List Int->List (List Int)}{m m':S×Lp}{a:List Int}(h:oV f deep L m a=.stop m'):m'.2=.ret:=by
 unfold oV at h;generalize bz (iE f deep) (L a) (m.1,.ready)=r at h;cases r with
 |go q=>cases h
 |bad q=>cases h
 |stop q=>
  obtain⟨s,lp⟩:=q;cases lp<;>cases h;rfl
theorem aqX{S:Type}{f:S->List Int->dt S}{deep:Int}{m m':S×Lp}{a:List Int}(h:iE f deep m a=.stop m'):m'.2=.ret\/m'.2=.exit 3:=by
 unfold iE at h;cases hf:f m.1 a with
 |go q=>
  rw[hf]at h;dsimp only at h;by_cases h0:deep=0
  ·rw[if_pos h0]at h;cases h;exact .inl rfl
  ·rw[if_neg h0]at h;by_cases h1:deep=1
   ·rw[if_pos h1]at h;cases h;exact .inr rfl
   ·rw[if_neg h1]at h;cases h
 |stop q=>rw[hf]at h;cases h;exact .inl rfl
 |bad q=>rw[hf]at h;cases h
theorem aqW{S:Type}{f:S->List Int->dt S}{deep:Int}{m m':S×Lp}{a:List Int}(h:iE f deep m a=.go m'):m'.2=.ready:=by
 unfold iE at h;cases hf:f m.1 a with
 |go q=>
  rw[hf]at h;dsimp only at h;by_cases h0:deep=0
  ·rw[if_pos h0]at h;cases h
  ·rw[if_neg h0]at h;by_cases h1:deep=1
   ·rw[if_pos h1]at h;cases h
   ·rw[if_neg h1]at h;cases h;rfl
 |stop q=>rw[hf]at h;cases h
 |bad q=>rw[hf]at h;cases h
theorem abt{S α:Type}{F:S->α->dt S}{J:S->Prop}{A:α->Prop}(hi:∀s a s',J s->A a->F s a=.go s'->J s'):∀{l:List α}{s s':S},(∀a∈l,A a)->J s->bz F l s=.stop s'->∃t a,J t/\A a/\F t a=.stop s'
 |[],s,s',_,_,h=>by cases h
 |a::l,s,s',ha,hs,h=>by
  simp only[bz]at h;cases hf:F s a with
  |go t=>rw[hf]at h;exact abt hi (λb hb=>ha b (by simp[hb])) (hi s a t hs (ha a (by simp)) hf) h
  |stop t=>rw[hf]at h;cases h;exact⟨s,a,hs,ha a (by simp),hf⟩
  |bad t=>rw[hf]at h;cases h
theorem CX{S:Type}{f:S->List Int->dt S}{deep:Int}{I:S->Prop}{A:List Int->Prop}(hi:∀s a s',I s->A a->f s a=.go s'->I s'){m m':S×Lp}{a:List Int}(hm:I m.1)(ha:A a)(h:iE f deep m a=.go m'\/iE f deep m a=.stop m'/\m'.2≠ .ret):I m'.1:=by
 unfold iE at h;cases hf:f m.1 a with
 |go q=>
  have hq:=hi _ _ _ hm ha hf;rw[hf]at h;dsimp only at h;by_cases h0:deep=0
  ·rw[if_pos h0]at h;rcases h with h|⟨h,h2⟩
   ·cases h
   ·cases h;exact hq
  ·rw[if_neg h0]at h;by_cases h1:deep=1
   ·rw[if_pos h1]at h;rcases h with h|⟨h,h2⟩
    ·cases h
    ·cases h;exact hq
   ·rw[if_neg h1]at h;rcases h with h|⟨h,h2⟩
    ·cases h;exact hq
    ·cases h
 |stop q=>
  rw[hf]at h;rcases h with h|⟨h,h2⟩
  ·cases h
  ·cases h;exact absurd rfl h2
 |bad q=>
  rw[hf]at h;rcases h with h|⟨h,h2⟩
  ·cases h
  ·cases h
theorem ad8{S:Type}{f:S->List Int->dt S}{deep:Int}{I:S->Prop}{A:List Int->Prop}(hi:∀s a s',I s->A a->f s a=.go s'->I s'){l:List (List Int)}{σ:S}{m:S×Lp}(hl:∀a∈l,A a)(hs:I σ)(h:kq (bz (iE f deep) l (σ,.ready))=.go m):I m.1/\m.2=.ready:=by
 cases hr:bz (iE f deep) l (σ,.ready)with
 |go q=>
  rw[hr]at h;cases h;exact⟨zM (f:=iE f deep) (s':=q) (I:=λm:S×Lp=>I m.1) (A:=A) (λs a s' h1 h2 h3=>CX hi h1 h2 (.inl h3)) l _ hl hs hr,rfl⟩
 |stop q=>
  obtain⟨t,a,h1,h2,h3⟩:=abt (J:=λm:S×Lp=>I m.1) (A:=A) (λs a s' h1 h2 h3=>CX hi h1 h2 (.inl h3)) hl hs hr;rw[hr]at h;obtain⟨q1,q2⟩:=q;cases q2 with
  |ret=>cases h
  |ready=>cases h;exact⟨CX (m':=(q1,.ready)) hi h1 h2 (.inr ⟨h3,by simp⟩),rfl⟩
  |exit i=>cases h;exact⟨CX (m':=(q1,.exit i)) hi h1 h2 (.inr ⟨h3,by simp⟩),rfl⟩
  |busy=>cases h;exact⟨CX (m':=(q1,.busy)) hi h1 h2 (.inr ⟨h3,by simp⟩),rfl⟩
 |bad q=>rw[hr]at h;cases h
end Go.Gg.Tk
namespace Go.Gg
open Go.Conc Go.Proofs Go.Gg.Tk
namespace Tk
def mK (l:List Nat)(i:Nat):List Nat:=l.take i++TM (3-i) 0
theorem afe{l:List Nat}{i q:Nat}(h:l[i]?=some q)(hl:l.length<=3):(mK l i).set i q=mK l (i+1):=by
 have hi:=eB h;unfold mK;rw[UN _ _ (by simp;omega),show i-(l.take i).length=0 by simp;omega,show 3-i=(3-(i+1))+1 by omega,Wu,TZ,Wx,h];simp
theorem N1{l:List Nat}{i:Nat}(hi:i<=l.length)(hl:l.length<=3):(mK l i).length=3:=by simp[mK];omega
theorem afd{l:List Nat}:mK l l.length=l++TM (3-l.length) 0:=by simp[mK]
theorem aaN:∀{qs:List Nat}{u:Nat}{t ns:List Nat},ns∈j_ qs u t->ns.length=t.length+qs.length
 |[],u,t,ns,h=>by
  simp only[j_,S5]at h;subst h;rfl
 |q::qs,u,t,ns,h=>by
  simp only[j_,S7]at h;obtain⟨n,_,h⟩:=h;split at h
  ·cases h
  ·have:=aaN h;simp at this⊢;omega
theorem LN{x:ak}{h:List Int}{ns:List Nat}(hm:ns∈fJ x h):ns.length=x.pieces.length:=by
 have:=aaN hm;simpa using this
def F1 (k:Nat)(a:List Int):List Nat:=((a.drop 4).take k).map Ya
theorem amP{h:List Int}{ns:List Nat}(h4:h.length=4):F1 ns.length (dM h ns)=ns:=by
 unfold F1 dM kL;rw[SD,Vt,TU (by omega),h4,UD,Vd,XA,SD,TA (by simp),SX (by simp),XY]
 conv=>rhs;rw[<- List.map_id ns]
 exact Vx λn _=>by simp
def uf (x:ak)(h:List Int)(a:List Int):List (List Int):=(gS x h (F1 x.pieces.length a)).map (dp h (F1 x.pieces.length a))
theorem K1{x:ak}{h:List Int}{ns:List Nat}(h4:h.length=4)(hn:ns.length=x.pieces.length):uf x h (dM h ns)=(gS x h ns).map (dp h ns):=by
 unfold uf;rw[<- hn,amP h4]
theorem aq2{x:ak}{h:List Int}{deep:Int}(h4:h.length=4):iX x deep h=re deep (((fJ x h).map (dM h)).map (uf x h)):=by
 rw[XY];have:(fJ x h).map (uf x h∘dM h)=(fJ x h).map λns=>(gS x h ns).map λos=>dp h ns os:=Vx λns hm=>K1 h4 (LN hm);rw[this];rfl
end Tk
section
variable {lv:Bool}
theorem IB{H:List aa}{k kp:AV->List aa->Prop}{x:ak}{h:List Int}{deep:Int}(hk:k (.fn (.func 91) [] [.op H.length 0,.op (H.length+1) 0,.op (H.length+2) 0]) (H++[.cells x.l 76,.cells (h.map iv) 83,.cells [iv deep] 3])):ba lv SC 66 H [x.av,.agg (h.map iv),iv deep] k kp:=by
 refine bE (rs:=[.tmp 6]) (nt:=8) Tryz.f66 λhH hA=> ?_;simp only[bk,SW,ak.av];refine ai ?_;refine aj ?_;simp only[seval,T_,UA,Ug,TP];refine aX ?_;exact bS hk
theorem IF{x:ak}{h:List Int}{deep:Int}{N ir ih id:Nat}{yv pv:AV}{S:Type}{f:S->List Int->dt S}{Gf:S->List aa}{I:S->Prop}{A:List Int->Prop}{σ:S}{k kp:AV->List aa->Prop}(hx:x.Ok)(hh:l7 h)(hY:jr lv SC yv f Gf N I A pv)(hr:∀σ L,(Gf σ++L)[ir]?=some (.cells x.l 76))(hi:∀σ L,(Gf σ++L)[ih]?=some (.cells (h.map iv) 83))(hd:∀σ L,(Gf σ++L)[id]?=some (.cells [iv deep] 3))
  (na:∀n,Lt n pv) (hI:I σ) (pi:∀a,A a->a.length=11) (hA:∀ns∈fJ x h,∀a∈(gS x h ns).map (dp h ns),A a) (hk:fL Gf pv k kp [] (bz f (iX x deep h) σ)):ba lv SC 91 (Gf σ) [yv,.op ir 0,.op ih 0,.op id 0] k kp:=by
 refine Pr (rs:=[]) (nt:=44) F.f91 rfl rfl rfl (by simp) λhH tD=> ?_;simp only[bk,SW];have hN:=hY.len σ;have xf:=hx.eP;have bP:x.l=[iv x.first,iv x.hours,iv x.an,dS x.seen,aZ x.pieces,aZ x.aB]:=rfl;have mQ:(h.map iv).length=4:=by rw[Tn,hh.len]
 refine mJ ?_;refine aj ?_;simp only[seval,hY.parts];refine ae0 ?_;refine mJ ?_;refine ai ?_;refine HJ ?_;refine mJ ?_;refine aj ?_;simp only[seval,hr,bP,aZ];refine HI ?_;refine cF ?_;refine gA x.aB.length (λi:Nat=>[(14,iv i)]) (λi=>Gf σ++[.cells [yv] 132,.cells ((mK (x.aB.map (bW h)) i).map λn=>wv n) 81]) (λi=>True) (λ_ _=>rfl) (by simp only[seval];simp[bN,Wk.refl]) rfl (λ_ _ _=>by simp) trivial (λbT cW i b_ _ R hR=> ?_);refine ai ?_;refine aE ?_;refine⟨λhc=> ?_,λhc=> ?_⟩
 ·have bt:i<x.aB.length:=by omega
  obtain⟨y,hy⟩:=cC bt;have uc:(x.aB.map (bW h))[i]?=some (bW h y):=by rw[To,hy];rfl
  have b3:(0<=(i:Int)/\(i:Int)<3)=True:=by simp;omega
  have bQ:SF.wrap ((i:Int)+1)=((i+1:Nat):Int):=by rw[bC _ (by omega)];rfl
  have cJ:(mK (x.aB.map (bW h)) i).length=3:=N1 (by simp;omega) (by simpa using xf);have vk:((mK (x.aB.map (bW h)) i).map λn=>wv n).length=3:=by rw[Tn,cJ]
  refine aN ?_;refine aj ?_;simp only[seval,Gz hy,je bt];refine aj ?_;simp only[seval,hi,mQ];rw[SX (i:=4) (l:=h.map iv) (by rw[mQ];exact SQ _)];refine aM ((D5 (h:=h) (y:=y) hh ?_));(try simp only[seval,b3,vk]);refine⟨by omega,?_⟩;rw[MB (g:=λn=>wv n) (show i<(mK (x.aB.map (bW h)) i).length by omega),afe uc (by simpa using xf)];refine aj ?_;simp only[seval,bQ];exact hR _ ⟨bt,trivial,zL (pI rfl rfl) (by simp only[seval];simp[bN,Wk.refl]) (Rh (L:=[_]) bT (aaT _ _)) (by simp[eE])⟩
 have:i=x.aB.length:=by omega
 subst this;clear hc b_;refine b9 ?_;have ze:∃r,mK (x.aB.map (bW h)) x.aB.length=x.aB.map (bW h)++r:=⟨_,by
  have:=afd (l:=x.aB.map (bW h));simpa using this⟩
 have xe:(mK (x.aB.map (bW h)) x.aB.length).length=3:=N1 (by simp) (by simpa using xf);have Ks:((mK (x.aB.map (bW h)) x.aB.length).map λn=>wv n).length=3:=by rw[Tn,xe]
 generalize mK (x.aB.map (bW h)) x.aB.length=qs at ze xe Ks;refine mJ ?_;(repeat apply gX);refine NO ?_;simp only[seval];refine mJ ?_;refine aj ?_;simp only[seval,hr,bP,hi,mQ];rw[SX (i:=4) (l:=h.map iv) (by rw[mQ];exact SQ _)];refine aM ((ahQ (x:=x) (h:=h) ?_));(try simp only[seval]);refine aeX ?_;refine aeZ (by rfl) λl fn T ag bo hT wR pn=> ?_;(try simp only[seval]);rw[hN]at hT⊢;have h4:=hh.len;have aiZ:jr lv SC (.fn (.yield l) [] []) (oV f deep (uf x h)) (λm:S×Lp=>Gf m.1++[.cells [yv] 132,.cells (qs.map λn=>wv n) 81,.cells x.l 76,.cells (h.map iv) 83,.obj (.deferred (some [])),.loop l m.2.st m.2.pe fn T 44 #[28] ag bo (N+4)]) (N+6) (λm=>I m.1/\m.2=.ready) (λa=>∃ns∈fJ x h,a=dM h ns) pv:=by
  have g3:∀(σ:S)(L:List aa),(Gf σ++L)[N+1]?=L[1]?:=λσ L=>hY.get σ L 1;have g5:∀(σ:S)(L:List aa),(Gf σ++L)[N+5]?=L[5]?:=λσ L=>hY.get σ L 5;have s5:∀(σ:S)(L:List aa) y,(Gf σ++L).set (N+5) y=Gf σ++L.set 5 y:=λσ L y=>hY.set σ L 5 y;refine⟨λm a M k kp hm ha dw=> ?_,λm a m' hm ha he=> ?_,λm=>by simp[hY.len],λq m m' hz z eO=> ?_,rfl,rfl,rfl⟩
  ·obtain⟨σ,lp⟩:=m;obtain⟨I6,gD⟩:=hm;replace I6:I σ:=I6;replace gD:lp=.ready:=gD;subst gD;obtain⟨ns,iO,rfl⟩:=ha;have jB:=LN iO;have pF:(dM h ns).length=11:=(by simp[dM,h4,zH (k:=4) (l:=ns) (by have:=hx.cZ;omega)]);have zm:((dM h ns).map iv).length=11:=(by rw[Tn,pF]);obtain⟨Lo,kA⟩:∃Lo,Lo=aa.loop l .busy none fn T 44 #[28] ag bo (N+4):=⟨_,rfl⟩;obtain⟨P1,dh⟩:∃P1:S->List aa,∀σ,P1 σ=Gf σ++([.cells [yv] 132,.cells (qs.map λn=>wv n) 81,.cells x.l 76,.cells (h.map iv) 83,.obj (.deferred (some [])),Lo]++M):=⟨_,λ_=>rfl⟩;have d_:∀σ,(P1 σ).length=N+6+M.length:=λσ=>(by rw[dh];simp[hY.len];omega);have pg:∀(σ:S)(L:List aa)(i:Nat),i<6->(P1 σ++L)[N+i]?=[aa.cells [yv] 132,.cells (qs.map λn=>wv n) 81,.cells x.l 76,.cells (h.map iv) 83,.obj (.deferred (some [])),Lo][i]?:=λσ L i JO=>by
    rw[dh,SD,hY.get,SD,SZ (by simpa using JO)]
   have pr:∀(σ:S)(L:List aa),(P1 σ++L)[ir]?=some (.cells x.l 76):=λσ L=>(by rw[dh,SD];exact hr σ _);have pd:∀(σ:S)(L:List aa),(P1 σ++L)[id]?=some (.cells [iv deep] 3):=λσ L=>(by rw[dh,SD];exact hd σ _);have pb:∀(σ:S)(L:List aa)(i:Nat),(P1 σ++L)[N+6+M.length+i]?=L[i]?:=λσ L i=>(by rw[<- d_ σ,a_]);have vS:∀(σ:S)(L:List aa),(P1 σ++L)[N+6+M.length]?=L[0]?:=λσ L=>pb σ L 0;have pg1:∀(σ:S)(L:List aa),(P1 σ++L)[N+1]?=some (.cells (qs.map λn=>wv n) 81):=λσ L=>pg σ L 1 (by omega);have pg0:∀(σ:S)(L:List aa),(P1 σ++L)[N]?=some (.cells [yv] 132):=λσ L=>pg σ L 0 (by omega);have Qr:∀(τ:S)(lp:Lp),bM (Gf σ++(([aa.cells [yv] 132,.cells (qs.map λn=>wv n) 81,.cells x.l 76,.cells (h.map iv) 83,.obj (.deferred (some [])),.loop l .ready none fn T 44 #[28] ag bo (N+4)]:List aa)++M))->bM (Gf τ++(([aa.cells [yv] 132,.cells (qs.map λn=>wv n) 81,.cells x.l 76,.cells (h.map iv) 83,.obj (.deferred (some [])),.loop l lp.st lp.pe fn T 44 #[28] ag bo (N+4)]:List aa)++M)):=λτ lp gM z hz=>by
    have hlen:(Gf τ++(([aa.cells [yv] 132,.cells (qs.map λn=>wv n) 81,.cells x.l 76,.cells (h.map iv) 83,.obj (.deferred (some [])),.loop l lp.st lp.pe fn T 44 #[28] ag bo (N+4)]:List aa)++M)).length=(Gf σ++(([aa.cells [yv] 132,.cells (qs.map λn=>wv n) 81,.cells x.l 76,.cells (h.map iv) 83,.obj (.deferred (some [])),.loop l .ready none fn T 44 #[28] ag bo (N+4)]:List aa)++M)).length:=(by simp[hY.len]);have hl:=gM (.loop l .ready none fn T 44 #[28] ag bo (N+4)) (by simp);rw[hlen];rcases SS.1 hz with h'|h'
    ·exact hY.ok _ σ τ (λw hw=>gM w (Te _ hw)) z h'
    ·rcases SS.1 h' with h'|h'
     ·simp only[SL,S0,or_false]at h';rcases h' with rfl|rfl|rfl|rfl|rfl|rfl
      ·exact gM _ (by simp)
      ·exact gM _ (by simp)
      ·exact gM _ (by simp)
      ·exact gM _ (by simp)
      ·exact gM _ (by simp)
      ·exact hl
     ·exact gM z (S4 _ (S4 _ h'))
   have IH:bM (Gf σ++(([aa.cells [yv] 132,.cells (qs.map λn=>wv n) 81,.cells x.l 76,.cells (h.map iv) 83,.obj (.deferred (some [])),.loop l .ready none fn T 44 #[28] ag bo (N+4)]:List aa)++M))->∀(τ:S)(lp:Lp)(b':Bool)(TT:List (Nat×AV))(L:List aa),k (bv b') ((Gf τ++[.cells [yv] 132,.cells (qs.map λn=>wv n) 81,.cells x.l 76,.cells (h.map iv) 83,.obj (.deferred (some [])),.loop l lp.st lp.pe fn T 44 #[28] ag bo (N+4)])++M)->og (N+5) (N+6+M.length) k lp.st lp.pe b' ⟨TT,P1 τ++L⟩:=λgM τ lp b' TT L dw=>by
    refine⟨l,.busy,none,fn,T,44,#[28],ag,bo,N+4,by show (P1 τ++L)[_]?=_;rw[pg τ _ 5 (by omega),kA];rfl,?_⟩;show cy (N+6+M.length) ((P1 τ++L).set _ _) _ k;rw[dh,SD,s5];rw[SD]at dw;exact jy (G:=L) (Wk.refl _) (by simp) (by simp[hY.len];omega) (Qr τ lp gM) (.val _) dw
   have ah6:bM (Gf σ++(([aa.cells [yv] 132,.cells (qs.map λn=>wv n) 81,.cells x.l 76,.cells (h.map iv) 83,.obj (.deferred (some [])),.loop l .ready none fn T 44 #[28] ag bo (N+4)]:List aa)++M))->∀(τ:S)(L:List aa),kp pv ((Gf τ++[.cells [yv] 132,.cells (qs.map λn=>wv n) 81,.cells x.l 76,.cells (h.map iv) 83,.obj (.deferred (some [])),.loop l Lp.busy.st Lp.busy.pe fn T 44 #[28] ag bo (N+4)])++M)->cy (N+6+M.length) (P1 τ++L) pv kp:=λgM τ L dw=>by
    rw[SD]at dw;rw[dh,kA];exact jy (G:=L) (Wk.refl _) rfl (by simp[hY.len];omega) (Qr τ .busy gM) (na _) dw
   subst hT wR pn;rw[SD];refine uV (id:=N+5) (by rw[g5];rfl) rfl (by kernel_rfl) λnF I2=> ?_;simp only[rz];have vq:Ur 11 [iv 0,iv 0,iv 0,iv 0,iv 0,iv 0,iv 0,iv 0,iv 0,iv 0,iv 0]=[]:=rfl;refine aj ?_;simp only[seval,pF,vq];unfold sZ;refine⟨none,fn,_,44,#[28],_,_,_,by rw[g5];rfl,?_⟩;dsimp only;rw[s5];simp only[UB,TZ];rw[<- kA];have wN:(Gf σ).length+(M.length+1+1+1+1+1+1)=N+6+M.length:=(by rw[hY.len];omega);rw[wN];have w5:∀z:aa,Gf σ++aa.cells [yv] 132::aa.cells (UY (λn=>wv n) qs) 81::aa.cells x.l 76::aa.cells (UY iv h) 83::aa.obj (atm (some []))::Lo::(M++[z])=P1 σ++[z]:=λz=>(by rw[dh];simp);rw[w5];refine aj ?_;simp only[seval,pr,bP,vS,pg1,zm,pF,Ks,xe];rw[SX (i:=11) (l:=(dM h ns).map iv) (by rw[zm];exact SQ _),SX (i:=3) (l:=qs.map λn=>wv n) (by rw[Ks];exact SQ _)];refine aM ((ahR (x:=x) (tc:=dM h ns) (qs:=qs) ?_));(try simp only[seval]);refine cF ?_;have pu:∀(σ:S)(a b c d:aa),(P1 σ++[a,b,c,d]).length=N+6+M.length+4:=λσ a b c d=>(by simp[d_]);refine DJ (N+5) (by rfl) (by show (P1 σ++_)[N+5]?=_;rw[pg σ _ 5 (by omega),kA];rfl) λl2 eA T2 gf gg nH wS wU=> ?_;simp only[seval];rw[d_]at nH⊢;have zA:∀(σ τ:S)(L L':List aa),L'.length=L.length->(∀q,(∀z∈L,eR q z)->∀z∈L',eR q z)->bM (P1 σ++L)->bM (P1 τ++L'):=λσ τ L L' hl hL hH z hz=>by
    have hlen:(P1 τ++L').length=(P1 σ++L).length:=(by simp[d_,hl]);rw[hlen];rcases SS.1 hz with h'|h'
    ·rw[dh]at h';rcases SS.1 h' with h'|h'
     ·exact hY.ok _ σ τ (λw hw=>hH w (Te _ (by rw[dh];exact Te _ hw))) z h'
     ·exact hH z (Te _ (by rw[dh];exact S4 _ h'))
    ·exact hL _ (λw hw=>hH w (S4 _ hw)) z h'
   have wQ:∀tc:List Int,jr lv SC (.fn (.yield l2) [] []) (iE f deep) (λm:S×Lp=>P1 m.1++[.cells ((dM h ns).map iv) 86,.cells x.l 76,.cells (tc.map iv) 86,.cells (qs.map λn=>wv n) 81,.loop l2 m.2.st m.2.pe eA T2 44 #[33] gf gg (N+4)]) (N+6+M.length+5) (λm=>I m.1/\m.2=.ready) A pv:=λtc=>by
    refine⟨λm b M2 k2 xr hm hb kF=> ?_,λm b m' hm hb he=> ?_,λm=>by simp[d_],λq m m' hz z eO=> ?_,rfl,rfl,rfl⟩
    ·obtain⟨σ',lp⟩:=m;obtain⟨I7,gD⟩:=hm;replace I7:I σ':=I7;replace gD:lp=.ready:=gD;subst gD;have cJ:b.length=11:=pi b hb;have vk:(b.map iv).length=11:=(by rw[Tn,cJ]);obtain⟨oZ,rZ⟩:∃Lo,Lo=aa.loop l2 .busy none eA T2 44 #[33] gf gg (N+4):=⟨_,rfl⟩;obtain⟨Q1,fP⟩:∃Q1:S->List aa,∀σ,Q1 σ=P1 σ++([.cells ((dM h ns).map iv) 86,.cells x.l 76,.cells (tc.map iv) 86,.cells (qs.map λn=>wv n) 81,oZ]++M2):=⟨_,λ_=>rfl⟩;obtain⟨C,hC⟩:∃C,C=N+6+M.length+5+M2.length:=⟨_,rfl⟩;have Jc:∀σ,(Q1 σ).length=C:=λσ=>(by rw[fP,hC];simp[d_];omega);have ly:∀(σ:S)(L:List aa),(P1 σ++L)[N+6+M.length+4]?=L[4]?:=λσ L=>pb σ L 4;have oU:∀(σ:S)(L:List aa)(y:aa),(P1 σ++L).set (N+6+M.length+4) y=P1 σ++L.set 4 y:=λσ L y=>(by rw[<- d_ σ,dX]);have qN:∀(σ:S)(L:List aa),(Q1 σ++L)[N]?=some (.cells [yv] 132):=λσ L=>(by rw[fP,SD];exact pg0 σ _);have qd:∀(σ:S)(L:List aa),(Q1 σ++L)[id]?=some (.cells [iv deep] 3):=λσ L=>(by rw[fP,SD];exact pd σ _);have q4:∀(σ:S)(L:List aa),(Q1 σ++L)[N+6+M.length+4]?=some oZ:=λσ L=>(by rw[fP,SD,ly];rfl);have qc:∀(σ:S)(L:List aa),(Q1 σ++L)[C]?=L[0]?:=λσ L=>(by rw[<- Jc σ];exact a_ _ L 0);have Mn:∀(σ:S)(L:List aa)(y:aa),(Q1 σ++L).set (N+6+M.length+4) y=(P1 σ++([.cells ((dM h ns).map iv) 86,.cells x.l 76,.cells (tc.map iv) 86,.cells (qs.map λn=>wv n) 81,y]++M2))++L:=λσ L y=>(by rw[fP,SD,oU];simp);obtain⟨Mz,El⟩:∃Mz:List aa,∀σ,Q1 σ++[.cells (b.map iv) 86]=Gf σ++Mz:=⟨_,λσ=>by rw[fP,dh,SD,SD]⟩;have eU:∀(τ:S)(lp:Lp),bM (P1 σ'++([.cells ((dM h ns).map iv) 86,.cells x.l 76,.cells (tc.map iv) 86,.cells (qs.map λn=>wv n) 81,.loop l2 .ready none eA T2 44 #[33] gf gg (N+4)]++M2))->bM (P1 τ++([.cells ((dM h ns).map iv) 86,.cells x.l 76,.cells (tc.map iv) 86,.cells (qs.map λn=>wv n) 81,.loop l2 lp.st lp.pe eA T2 44 #[33] gf gg (N+4)]++M2)):=λτ lp gM=>zA σ' τ _ _ (by simp) (λq hz z eO=>by
      have hl:=hz (.loop l2 .ready none eA T2 44 #[33] gf gg (N+4)) (by simp);rcases SS.1 eO with h'|h'
      ·simp only[SL,S0,or_false]at h';rcases h' with rfl|rfl|rfl|rfl|rfl
       ·exact hz _ (by simp)
       ·exact hz _ (by simp)
       ·exact hz _ (by simp)
       ·exact hz _ (by simp)
       ·exact hl
      ·exact hz _ (S4 _ h')) gM
     have fW:cP (λm:S×Lp=>P1 m.1++[.cells ((dM h ns).map iv) 86,.cells x.l 76,.cells (tc.map iv) 86,.cells (qs.map λn=>wv n) 81,.loop l2 m.2.st m.2.pe eA T2 44 #[33] gf gg (N+4)]) pv k2 xr M2 (iE f deep (σ',.ready) b):=kF;have JB:∀z:aa,P1 σ'++(aa.cells (UY iv (dM h ns)) 86::aa.cells x.l 76::aa.cells (UY iv tc) 86::aa.cells (UY (λn=>wv n) qs) 81::oZ::(M2++[z]))=Q1 σ'++[z]:=λz=>(by rw[fP];simp);have D8:bM (P1 σ'++([.cells ((dM h ns).map iv) 86,.cells x.l 76,.cells (tc.map iv) 86,.cells (qs.map λn=>wv n) 81,.loop l2 .ready none eA T2 44 #[33] gf gg (N+4)]++M2))->∀(τ:S)(lp:Lp)(b':Bool)(TT:List (Nat×AV)),k2 (bv b') ((P1 τ++[.cells ((dM h ns).map iv) 86,.cells x.l 76,.cells (tc.map iv) 86,.cells (qs.map λn=>wv n) 81,.loop l2 lp.st lp.pe eA T2 44 #[33] gf gg (N+4)])++M2)->og (N+6+M.length+4) C k2 lp.st lp.pe b' ⟨TT,Gf τ++Mz⟩:=λgM τ lp b' TT dw=>by
      refine⟨l2,.busy,none,eA,T2,44,#[33],gf,gg,N+4,by show (Gf τ++Mz)[_]?=_;rw[<- El,q4,rZ],?_⟩;show cy C ((Gf τ++Mz).set _ _) _ k2;rw[<- El,Mn];rw[SD]at dw;exact jy (G:=[.cells (b.map iv) 86]) (Wk.refl _) rfl (by rw[hC];simp[d_];omega) (eU τ lp gM) (.val _) dw
     have ah5:bM (P1 σ'++([.cells ((dM h ns).map iv) 86,.cells x.l 76,.cells (tc.map iv) 86,.cells (qs.map λn=>wv n) 81,.loop l2 .ready none eA T2 44 #[33] gf gg (N+4)]++M2))->∀τ:S,xr pv ((P1 τ++[.cells ((dM h ns).map iv) 86,.cells x.l 76,.cells (tc.map iv) 86,.cells (qs.map λn=>wv n) 81,.loop l2 Lp.busy.st Lp.busy.pe eA T2 44 #[33] gf gg (N+4)])++M2)->cy C (Gf τ++Mz) pv xr:=λgM τ dw=>by
      rw[<- El,fP,rZ];rw[SD]at dw;exact jy (G:=[.cells (b.map iv) 86]) (Wk.refl _) rfl (by rw[hC];simp[d_];omega) (eU τ .busy gM) (na _) dw
     subst nH wS wU;rw[SD];refine uV (id:=N+6+M.length+4) (by rw[ly];rfl) rfl (by kernel_rfl) λqw I3=> ?_;simp only[rz];refine aj ?_;simp only[seval,cJ,vq];unfold sZ;refine⟨none,eA,_,44,#[33],_,_,_,by rw[ly];rfl,?_⟩;dsimp only;rw[oU];simp only[UB,TZ];rw[<- rZ];have Be:(P1 σ').length+(M2.length+1+1+1+1+1)=C:=(by rw[d_,hC];omega);rw[Be,JB];refine aj ?_;simp only[seval,qN,qc,cJ,vk];rw[SX (i:=11) (l:=b.map iv) (by rw[vk];exact SQ _),El];refine wy (hY.call σ' b Mz _ _ I7 hb ?_);unfold iE at fW;rw[show f (σ',Lp.ready).1 b=f σ' b from rfl]at fW;cases hf:f σ' b with
     |go τ=>
      rw[hf]at fW;dsimp only at fW;simp only[cP];(try simp only[seval,hd]);refine aE ?_;refine⟨λh0=> ?_,λh0=> ?_⟩
      ·replace h0:deep=0:=(by simpa using h0);rw[if_pos h0]at fW;simp only[cP]at fW;refine aX ?_;exact D8 qw τ .ret false _ fW
      ·replace h0:¬deep=0:=(by simpa using h0);rw[if_neg h0]at fW;refine aN ?_;refine aj ?_;simp only[seval,hd];refine aE ?_;refine⟨λh1=> ?_,λh1=> ?_⟩
       ·replace h1:deep=1:=(by simpa using h1);rw[if_pos h1]at fW;simp only[cP]at fW;refine b9 ?_;exact D8 qw τ (.exit 3) false _ fW
       ·replace h1:¬deep=1:=(by simpa using h1);rw[if_neg h1]at fW;simp only[cP]at fW;refine aN ?_;exact D8 qw τ .ready true _ fW
     |stop τ=>
      rw[hf]at fW;dsimp only at fW;simp only[cP]at fW⊢;(try simp only[seval]);refine aE ?_;refine aX ?_;exact D8 qw τ .ret false _ fW
     |bad τ=>
      rw[hf]at fW;dsimp only at fW;simp only[cP]at fW⊢;exact ah5 qw τ fW
    ·obtain⟨σ',lp⟩:=m;obtain⟨τ,Cv⟩:=m';unfold iE at he;have hi:=(hY.inv σ' b τ hm.1 hb);cases hf:f σ' b with
     |go τ'=>
      rw[show f (σ',lp).1 b=f σ' b from rfl,hf]at he;dsimp only at he;by_cases h0:deep=0
      ·rw[if_pos h0]at he;cases he
      ·rw[if_neg h0]at he;by_cases h1:deep=1
       ·rw[if_pos h1]at he;cases he
       ·rw[if_neg h1]at he;cases he;exact⟨hi hf,rfl⟩
     |stop τ'=>rw[show f (σ',lp).1 b=f σ' b from rfl,hf]at he;cases he
     |bad τ'=>rw[show f (σ',lp).1 b=f σ' b from rfl,hf]at he;cases he
    ·rcases SS.1 eO with h'|h'
     ·rw[dh]at h';rcases SS.1 h' with h'|h'
      ·exact hY.ok q m.1 m'.1 (λw hw=>hz w (Te _ (by rw[dh];exact Te _ hw))) z h'
      ·exact hz z (Te _ (by rw[dh];exact S4 _ h'))
     ·have hl:=hz _ (S4 _ (Ti (i:=4) rfl));simp only[SL,S0,or_false]at h';rcases h' with rfl|rfl|rfl|rfl|rfl
      ·exact hz _ (S4 _ (by simp))
      ·exact hz _ (S4 _ (by simp))
      ·exact hz _ (S4 _ (by simp))
      ·exact hz _ (S4 _ (by simp))
      ·exact hl
   have e1:oV f deep (uf x h) (σ,.ready) (dM h ns)=kq (bz (iE f deep) ((gS x h ns).map (dp h ns)) (σ,.ready)):=(by unfold oV;rw[K1 h4 jB]);rw[e1]at dw;refine dC (ag4 (x:=x) (h:=h) (ns:=ns) (qs:=qs) (N:=N+6+M.length+5) (ir:=N+6+M.length+1) (it:=N+6+M.length+2) (is:=N+6+M.length+3) (tc:=dM h ns) (σ:=(σ,Lp.ready)) hx h4 jB wQ (λtc m L=> ?_) (λtc m L=> ?_) (λtc dY m L=> ?_) (λtc m L=> ?_) ze xe (λq tc dY m hz z eO=> ?_) na rfl ⟨I6,rfl⟩ (hA ns iO) (λdY asP=> ?_))
   ·rw[SD];exact pb _ _ 1
   ·rw[SD];exact pb _ _ 2
   ·rw[SD,<- d_ m.1,dX,SD];rfl
   ·rw[SD];exact pb _ _ 3
   ·rcases SS.1 eO with h'|h'
    ·exact hz z (Te _ h')
    ·simp only[SL,S0,or_false]at h';rcases h' with rfl|rfl|rfl|rfl|rfl
     ·exact hz _ (by simp)
     ·exact hz _ (by simp)
     ·exact am5 _ _ _
     ·exact hz _ (by simp)
     ·exact hz _ (by simp)
   have ly:∀(σ:S)(L:List aa),(P1 σ++L)[N+6+M.length+4]?=L[4]?:=λσ L=>pb σ L 4;have oU:∀(σ:S)(L:List aa)(y:aa),(P1 σ++L).set (N+6+M.length+4) y=P1 σ++L.set 4 y:=λσ L y=>(by rw[<- d_ σ,dX]);cases b_:bz (iE f deep) ((gS x h ns).map (dp h ns)) (σ,.ready)with
   |go m=>
    obtain⟨τ,lp⟩:=m;have gD:lp=.ready:=zM (I:=λm:S×Lp=>m.2=.ready) (A:=λ_=>True) (λs a s' _ _ e=>aqW e) _ _ _ (λ_ _=>trivial) rfl b_;subst gD;rw[b_]at dw;simp only[kq,cP]at dw;simp only[fL,SY];refine⟨.ready,none,_,_,_,_,_,_,_,by rw[ly];rfl,by decide,?_⟩;rw[oU,Gk];(try simp only[seval]);exact IH nF τ .ready true _ _ dw
   |stop m=>
    obtain⟨τ,lp⟩:=m;have gD:lp=.ret\/lp=.exit 3:=by
     obtain⟨_,_,q⟩:=Mu b_;exact aqX q
    rw[b_]at dw;rcases gD with rfl|rfl
    ·simp only[kq,cP]at dw;simp only[fL,SY];refine⟨.done,some .ret,_,_,_,_,_,_,_,by rw[ly];rfl,by decide,?_⟩;rw[oU,anL];(try simp only[seval]);exact IH nF τ .ret false _ _ dw
    ·simp only[kq,cP]at dw;simp only[fL,SY];refine⟨.done,some (.exit 3),_,_,_,_,_,_,_,by rw[ly];rfl,by decide,?_⟩;rw[oU,anK];(try simp only[seval]);exact IH nF τ .ready true _ _ dw
   |bad m=>
    obtain⟨τ,lp⟩:=m;rw[b_]at dw;simp only[kq,cP]at dw;simp only[fL,SY];exact ah6 nF τ _ dw
  ·obtain⟨σ',lp⟩:=m;obtain⟨τ,Cv⟩:=m';obtain⟨ns,iO,rfl⟩:=ha;have e1:oV f deep (uf x h) (σ',lp) (dM h ns)=kq (bz (iE f deep) ((gS x h ns).map (dp h ns)) (σ',.ready)):=(by unfold oV;rw[K1 h4 (LN iO)]);rw[e1]at he;exact ad8 hY.inv (hA ns iO) hm.1 he
  ·rcases SS.1 eO with h'|h'
   ·exact hY.ok q m.1 m'.1 (λw hw=>hz w (Te _ hw)) z h'
   ·have hl:=hz _ (S4 _ (Ti (i:=5) rfl));simp only[SL,S0,or_false]at h';rcases h' with rfl|rfl|rfl|rfl|rfl|rfl
    ·exact hz _ (S4 _ (by simp))
    ·exact hz _ (S4 _ (by simp))
    ·exact hz _ (S4 _ (by simp))
    ·exact hz _ (S4 _ (by simp))
    ·exact hz _ (S4 _ (by simp))
    ·exact hl
 obtain⟨dT,tX⟩:=acK (f:=f) (deep:=deep) (L:=uf x h) ((fJ x h).map (dM h)) σ;rw[<- aq2 h4]at dT;have g4:∀(σ:S)(L:List aa),(Gf σ++L)[N+4]?=L[4]?:=λσ L=>hY.get σ L 4;have g5:∀(σ:S)(L:List aa),(Gf σ++L)[N+4+1]?=L[5]?:=λσ L=>hY.get σ L 5;have s4:∀(σ:S)(L:List aa) y,(Gf σ++L).set (N+4) y=Gf σ++L.set 4 y:=λσ L y=>hY.set σ L 4 y;have s5:∀(σ:S)(L:List aa) y,(Gf σ++L).set (N+4+1) y=Gf σ++L.set 5 y:=λσ L y=>hY.set σ L 5 y;have qY:∀n,Lt n (.aJ []):=λn=>by simp[jm]
 refine dC (ag1 (x:=x) (h:=h) (N:=N+6) (ir:=N+2) (ih:=N+3) (σ:=(σ,Lp.ready)) hx hh aiZ (λm L=> ?_) (λm L=> ?_) na ⟨hI,rfl⟩ (λa ha=> ?_) ?_)
 ·rw[SD,hY.get m.1 _ 2];rfl
 ·rw[SD,hY.get m.1 _ 3];rfl
 ·obtain⟨ns,h1,rfl⟩:=Tm.1 ha;exact⟨ns,h1,rfl⟩
 cases bF:bz (oV f deep (uf x h)) ((fJ x h).map (dM h)) (σ,.ready)with
 |go m=>
  obtain⟨σ',lp⟩:=m;have gD:lp=.ready:=tX _ bF;subst gD;rw[bF]at dT;have aI:=Mq (r':=.go σ') dT.symm hk;simp only[fL,SY]at aI⊢;refine⟨.ready,none,_,_,_,_,_,_,_,by rw[g5];rfl,by decide,?_⟩;rw[s5];simp only[UB,TZ];rw[Gj];(try simp only[seval]);rw[yC (by rw[g4];rfl),yD,s4];(try simp only[seval]);rw[<- hN];exact us hY hH qY aI
 |stop m=>
  obtain⟨σ',lp⟩:=m;have gD:lp=.ret:=by
   obtain⟨_,_,q⟩:=Mu bF;exact aqT q
  subst gD;rw[bF]at dT;have aI:=Mq (r':=.stop σ') dT.symm hk;simp only[fL,SY]at aI⊢;refine⟨.done,some .ret,_,_,_,_,_,_,_,by rw[g5];rfl,by decide,?_⟩;rw[s5];simp only[UB,TZ];rw[anJ];(try simp only[seval]);rw[yC (by rw[g4];rfl),yD,s4];(try simp only[seval]);rw[<- hN];exact us hY hH qY aI
 |bad m=>
  obtain⟨σ',lp⟩:=m;rw[bF]at dT;have aI:=Mq (r':=.bad σ') dT.symm hk;simp only[fL,SY]at aI⊢;rw[yC (by rw[g4];rfl),yD,s4];rw[vP,<- hN];exact us hY hH na aI
end
open Go.Conc Go.Proofs Go.Gg.Tk
namespace Tk
def me (x y:Int):Int:=if x<y then -1 else if y<x then 1 else 0
def nC:List Int->List Int->Int
 |a::l,b::m=>if me a b≠0 then me a b else nC l m
 |[],[]=>0
 |[],_::_=> -1
 |_::_,[]=>1
def rO (a b:List Int):Bool:=if a.take 4=b.take 4 then(if nC ((a.drop 4).take 4) ((b.drop 4).take 4)≠0 then decide (nC ((a.drop 4).take 4) ((b.drop 4).take 4)<0)else decide (nC (a.drop 8) (b.drop 8)<0))else decide (nC (a.take 4) (b.take 4)<0)
end Tk
theorem D3{ca pa ra:List AV}{xs:List Int}{o i:Nat}{x:Int}(hc:ca=pa++(xs.map iv++ra))(ho:pa.length=o)(h:xs[i]?=some x):ca.drop (o+i)=iv x::((xs.drop (i+1)).map iv++ra):=by
 subst hc ho;rw[Vt,TU (by omega),UD,show pa.length+i-pa.length=i by omega,Vt,kv h,show i-(xs.map iv).length=0 by have:=eB h;simp;omega,XA];rfl
section
variable {lv:Bool}{H:List aa}{k kp:AV->List aa->Prop}
theorem O4{x:Int}(hk:k (bv false) H):ba lv SC 143 H [iv x] k kp:=by
 refine bE (rs:=[.tmp 2]) (nt:=6) Tryz.f143 λhH hA=> ?_;simp only[bk,SW];refine ai ?_;refine aj ?_;simp only[seval,bne_self_eq_false];refine aX ?_;refine bS ?_;simpa using hk
theorem ag7{x y:Int}(hk:k (iv (me x y)) H):ba lv SC 142 H [iv x,iv y] k kp:=by
 refine bE (rs:=[.tmp 4]) (nt:=20) Tryz.f142 λhH hA=> ?_;simp only[bk,SW];refine ai ?_;refine ai ?_;refine aM ((O4 ?_));(try simp only[seval]);refine ai ?_;refine aM ((O4 ?_));(try simp only[seval]);refine ai ?_;refine aE ?_;refine aN ?_;refine ai ?_;refine aE ?_;refine aN ?_;refine ai ?_;refine aE ?_;refine⟨λh=> ?_,λh=> ?_⟩
 ·refine ai ?_;refine aX ?_;rw[me,if_pos h]at hk;exact bS hk
 ·refine aN ?_;refine ai ?_;refine aE ?_;refine⟨λh2=> ?_,λh2=> ?_⟩
  ·refine ai ?_;refine aX ?_;rw[me,if_neg h,if_pos h2]at hk;exact bS hk
  ·refine aN ?_;refine ai ?_;refine aX ?_;rw[me,if_neg h,if_neg h2]at hk;exact bS hk
theorem Iu{xs ys:List Int}{ia oa ib ob ta tb:Nat}{ca cb pa ra pb rb:List AV}(ha:H[ia]?=some (.cells ca ta))(hb:H[ib]?=some (.cells cb tb))(hca:ca=pa++(xs.map iv++ra))(Kk:pa.length=oa)(hcb:cb=pb++(ys.map iv++rb))(hpb:pb.length=ob)(hl:ys.length=xs.length)(h4:xs.length<=4)(hk:k (iv (nC xs ys)) H):
  ba lv SC 138 H [.bD ia oa xs.length xs.length,.bD ib ob ys.length ys.length] k kp:=by
 refine bE (rs:=[.tmp 4]) (nt:=36) Tryz.f138 λhH hA=> ?_;simp only[bk,SW];refine ai ?_;refine ai ?_;refine cF ?_;refine rM xs.length (λi:Nat=>[(11,iv i)]) (λ_=>H) (λi=>nC xs ys=nC (xs.drop i) (ys.drop i)) rfl (λbT cW i b_ hI R hR=> ?_);refine ai ?_;refine aE ?_;refine⟨λh=> ?_,λh=> ?_⟩
 ·have bt:i<xs.length:=by omega
  obtain⟨x,hx⟩:=cC bt;obtain⟨y,hy⟩:=cC (xs:=ys) (i:=i) (by omega);have bQ:SF.wrap ((i:Int)+1)=((i+1:Nat):Int):=by rw[bC _ (by omega)];rfl
  have kI:nC xs ys=if me x y≠0 then me x y else nC (xs.drop (i+1)) (ys.drop (i+1)):=by rw[hI,uZ hx,uZ hy,nC]
  refine aN ?_;refine aj ?_;simp only[seval,ha,je bt,D3 hca Kk hx];refine ai ?_;refine aE ?_;refine⟨λh2=>by exfalso;omega,λh2=> ?_⟩;refine aN ?_;refine aj ?_;simp only[seval,hb,je (show i<ys.length by omega),D3 hcb hpb hy];refine ai ?_;refine aM ((ag7 ?_));(try simp only[seval]);refine ai ?_;refine aE ?_;refine⟨λh3=> ?_,λh3=> ?_⟩
  ·refine ai ?_;refine aX ?_;rw[kI,if_pos (by simpa using h3)]at hk;exact bS hk
  ·refine aN ?_;refine aj ?_;simp only[seval,bQ];refine hR _ ⟨bt,?_,dn⟩;rw[kI,if_neg (by simpa using h3)]
 ·have dl:i=xs.length:=by omega
  subst dl;refine b9 ?_;refine aj ?_;simp only[seval,hl];refine aE ?_;refine⟨λh2=>by exfalso;omega,λh2=> ?_⟩;refine aN ?_;refine ai ?_;refine aX ?_;rw[hI,List.drop_length,TU (WG hl),nC]at hk;exact bS hk
theorem F.C2:SC.underlying 83=some (.array 4 3):=by kernel_rfl
theorem F.u3:SC.underlying 3=some (.int .i64):=by kernel_rfl
theorem adT{P:SJ}{t e:TypeId}{k0:TV}{n:Nat}{xs ys:List Int}(ht:P.underlying t=some (.array n e))(he:P.underlying e=some (.int k0))(hs:(P.info? e).map (·.size)=some 1)(hg:P.eqGuardType P.depth t=false)(hx:xs.length=n)(hy:ys.length=n)(k:AV->Prop):
  dg P .neq t (.agg (xs.map iv)) (.agg (ys.map iv)) k=k (bv (!(xs==ys))):=by
 obtain⟨i,hi,hs⟩:=Tq.1 hs;have vF:=acm ht he hi hs hx hy;have e:dg P .neq t (.agg (xs.map iv)) (.agg (ys.map iv)) k=((VX=.eql\/VX=.neq)/\ao (AV.raw (.agg (xs.map iv))) λX=>ao (AV.raw (.agg (ys.map iv))) λY=>wE X Y=true/\P.eqGuardType P.depth t=false/\∃e,cp P (Xh t X Y) e/\k (.val (.bool (if VX== .neq then !e else e)))):=rfl;rw[e,xH,xH,vP,vP];apply propext;constructor
 ·rintro⟨_,_,_,b,h1,h2⟩
  rw[vF.uniq h1];exact h2
 ·intro h;exact⟨.inr rfl,rfl,hg,_,vF,h⟩
theorem F.R0:(SC.info? 3).map (·.size)=some 1:=by kernel_rfl
theorem F.g83:SC.eqGuardType SC.depth 83=false:=by kernel_rfl
theorem ag6{a b:List Int}(ha:a.length=11)(hb:b.length=11)(hk:k (bv (rO a b)) H):ba lv SC 128 H [.agg (a.map iv),.agg (b.map iv)] k kp:=by
 refine bE (rs:=[.tmp 4]) (nt:=32) Tryz.f128 λhH hA=> ?_;simp only[bk,SW];have ham:(a.map iv).length=11:=by rw[Tn,ha]
 have vk:(b.map iv).length=11:=by rw[Tn,hb]
 have ea:a.map iv=(a.take 4).map iv++(((a.drop 4).take 4).map iv++(a.drop 8).map iv):=by
  rw[<- TF,<- TF];congr 1;have:(a.drop 4).take 4++a.drop 8=a.drop 4:=by
   conv=>rhs;rw[<- Vg 4 (a.drop 4)]
   rw[ac_]
  rw[this,Vg]
 have eb:b.map iv=(b.take 4).map iv++(((b.drop 4).take 4).map iv++(b.drop 8).map iv):=by
  rw[<- TF,<- TF];congr 1;have:(b.drop 4).take 4++b.drop 8=b.drop 4:=by
   conv=>rhs;rw[<- Vg 4 (b.drop 4)]
   rw[ac_]
  rw[this,Vg]
 refine ai ?_;refine aj ?_;simp only[seval,ham,vk,ha,hb];have Fj:(a.take 4).length=4:=by simp[ha]
 have KG:(b.take 4).length=4:=by simp[hb]
 have KE:((a.drop 4).take 4).length=4:=by simp[ha]
 have RG:((b.drop 4).take 4).length=4:=by simp[hb]
 have KF:(a.drop 8).length=3:=by simp[ha]
 have RH:(b.drop 8).length=3:=by simp[hb]
 rw[<- VE,<- VE,adT F.C2 F.u3 F.R0 F.g83 Fj KG];refine aE ?_;refine⟨λh=> ?_,λh=> ?_⟩
 ·refine eo 4 ?_;simp only[seval];have c1:=λk kp=>Iu (lv:=lv) (k:=k) (kp:=kp) (H:=H++[.cells (a.map iv) 86,.cells (b.map iv) 86]) (xs:=a.take 4) (ys:=b.take 4) (ia:=H.length) (ib:=H.length+1) (oa:=0) (ob:=0) (pa:=[]) (pb:=[]) (a_ H _ 0) (a_ H _ 1) ea rfl eb rfl (by rw[Fj,KG]) (by rw[Fj];exact SQ _);simp only[Fj,KG]at c1;refine aM ((c1 _ _ ?_));(try simp only[seval]);refine aX ?_;rw[rO,if_neg (by simpa using h)]at hk;exact kS hH hk
 ·have h:=(by simpa using h:a.take 4=b.take 4);rw[rO,if_pos h]at hk;refine aN ?_;refine eo 4 ?_;simp only[seval];have c2:=λk kp=>Iu (lv:=lv) (k:=k) (kp:=kp) (H:=H++[.cells (a.map iv) 86,.cells (b.map iv) 86]) (xs:=(a.drop 4).take 4) (ys:=(b.drop 4).take 4) (ia:=H.length) (ib:=H.length+1) (oa:=4) (ob:=4) (pa:=(a.take 4).map iv) (pb:=(b.take 4).map iv) (a_ H _ 0) (a_ H _ 1) ea (by simp[ha]) eb (by simp[hb]) (by rw[KE,RG]) (by rw[KE];exact SQ _);simp only[KE,RG]at c2;refine aM ((c2 _ _ ?_));(try simp only[seval]);refine ai ?_;refine aE ?_;refine⟨λh2=> ?_,λh2=> ?_⟩
  ·refine ai ?_;refine aX ?_;rw[if_pos (by simpa using h2)]at hk;exact kS hH hk
  ·refine aN ?_;rw[if_neg (by simpa using h2)]at hk;refine eo 4 ?_;simp only[seval];have c3:=λk kp=>Iu (lv:=lv) (k:=k) (kp:=kp) (H:=H++[.cells (a.map iv) 86,.cells (b.map iv) 86]) (xs:=a.drop 8) (ys:=b.drop 8) (ia:=H.length) (ib:=H.length+1) (oa:=8) (ob:=8) (pa:=(a.take 4).map iv++((a.drop 4).take 4).map iv) (pb:=(b.take 4).map iv++((b.drop 4).take 4).map iv) (ra:=[]) (rb:=[]) (a_ H _ 0) (a_ H _ 1) (by rw[ea];simp) (by simp[ha]) (by rw[eb];simp) (by simp[hb]) (by rw[KF,RH]) (by rw[KF];omega);simp only[KF,RH]at c3;refine aM ((c3 _ _ ?_));(try simp only[seval]);refine aX ?_;exact kS hH hk
end
open Go.Conc Go.Proofs Go.Gg.Tk
theorem FY{α:Type}{g:α->AV}{ca pa ra:List AV}{xs:List α}{o i:Nat}{x:α}(hc:ca=pa++(xs.map g++ra))(ho:pa.length=o)(h:xs[i]?=some x):ca.drop (o+i)=g x::((xs.drop (i+1)).map g++ra):=by
 subst hc ho;rw[Vt,TU (by omega),UD,show pa.length+i-pa.length=i by omega,Vt,yn h,show i-(xs.map g).length=0 by have:=eB h;simp;omega,XA];rfl
theorem FZ{α:Type}{g:α->AV}{ca pa ra:List AV}{xs:List α}{o i:Nat}{y:α}(hc:ca=pa++(xs.map g++ra))(ho:pa.length=o)(h:i<xs.length):ca.take (o+i)++[g y]++ca.drop (o+i+1)=pa++((xs.set i y).map g++ra):=by
 subst hc ho;have h1:(pa++(xs.map g++ra)).take (pa.length+i)=pa++(xs.map g).take i:=by
  rw[List.take_append,SX (by omega),show pa.length+i-pa.length=i by omega,TA (by simp;omega)]
 have h2:(pa++(xs.map g++ra)).drop (pa.length+i+1)=(xs.map g).drop (i+1)++ra:=by
  rw[Vt,TU (by omega),UD,show pa.length+i+1-pa.length=i+1 by omega,Wp (by simp;omega)]
 rw[h1,h2,<- MB h];simp[SD]
namespace Tk
def Kn.l (F:Kn)(mp:Nat):List AV:=bv F.has:: .mp mp::(F.aA.map (λn=>wv n)++(F.hours.map (λn=>wv n)++(F.less.map (λn=>wv n)++(F.aS.map (λn=>wv n)++F.first.map iv))))
structure bH (F:Kn):Prop where
 aA:F.aA.length=4
 hours:F.hours.length=4
 less:F.less.length=4
 aS:F.aS.length=3
 first:F.first.length=11
 lV:∀n∈F.aA,n<65536
 mf:∀n∈F.hours,n<65536
 mu:∀n∈F.less,n<65536
 lw:∀n∈F.aS,n<65536
 h4:∀h∈F.aK,h.length=4
theorem Kn.len{F:Kn}(h:bH F)(mp:Nat):(F.l mp).length=28:=by simp[Kn.l,h.aA,h.hours,h.less,h.aS,h.first]
theorem Kn.F3{F:Kn}{mp p n:Nat}(h:F.aA[p]?=some n):(F.l mp).drop (2+p)=wv n::((F.aA.drop (p+1)).map (λn=>wv n)++(F.hours.map (λn=>wv n)++(F.less.map (λn=>wv n)++(F.aS.map (λn=>wv n)++F.first.map iv)))):=FY (pa:=[bv F.has,.mp mp]) rfl rfl h
theorem Kn.aaP{F:Kn}{mp p v:Nat}(h:p<F.aA.length):(F.l mp).take (2+p)++[wv v]++(F.l mp).drop (2+p+1)=({F with aA:=F.aA.set p v}:Kn).l mp:=FZ (g:=λn=>wv n) (pa:=[bv F.has,.mp mp]) rfl rfl h
theorem Kn.Kh{F:Kn}(k:bH F){mp p n:Nat}(h:F.hours[p]?=some n):(F.l mp).drop (6+p)=wv n::((F.hours.drop (p+1)).map (λn=>wv n)++(F.less.map (λn=>wv n)++(F.aS.map (λn=>wv n)++F.first.map iv))):=FY (pa:=bv F.has:: .mp mp::F.aA.map (λn=>wv n)) rfl (by simp[k.aA]) h
theorem Kn.Rm{F:Kn}(k:bH F){mp p v:Nat}(h:p<F.hours.length):(F.l mp).take (6+p)++[wv v]++(F.l mp).drop (6+p+1)=({F with hours:=F.hours.set p v}:Kn).l mp:=FZ (g:=λn=>wv n) (pa:=bv F.has:: .mp mp::F.aA.map (λn=>wv n)) rfl (by simp[k.aA]) h
theorem Kn.Lu{F:Kn}(k:bH F){mp p n:Nat}(h:F.less[p]?=some n):(F.l mp).drop (10+p)=wv n::((F.less.drop (p+1)).map (λn=>wv n)++(F.aS.map (λn=>wv n)++F.first.map iv)):=FY (pa:=bv F.has:: .mp mp::(F.aA.map (λn=>wv n)++F.hours.map (λn=>wv n))) (by simp[Kn.l]) (by simp[k.aA,k.hours]) h
theorem Kn.SA{F:Kn}(k:bH F){mp p v:Nat}(h:p<F.less.length):(F.l mp).take (10+p)++[wv v]++(F.l mp).drop (10+p+1)=({F with less:=F.less.set p v}:Kn).l mp:=by
 have:=FZ (g:=λn=>wv n) (ca:=F.l mp) (y:=v) (pa:=bv F.has:: .mp mp::(F.aA.map (λn=>wv n)++F.hours.map (λn=>wv n))) (ra:=F.aS.map (λn=>wv n)++F.first.map iv) (by simp[Kn.l]) (show _=10 by simp[k.aA,k.hours]) h;rw[this];simp[Kn.l]
theorem Kn.CH{F:Kn}(k:bH F){mp p n:Nat}(h:F.aS[p]?=some n):(F.l mp).drop (14+p)=wv n::((F.aS.drop (p+1)).map (λn=>wv n)++F.first.map iv):=FY (pa:=bv F.has:: .mp mp::(F.aA.map (λn=>wv n)++(F.hours.map (λn=>wv n)++F.less.map (λn=>wv n)))) (by simp[Kn.l]) (by simp[k.aA,k.hours,k.less]) h
theorem Kn.aa8{F:Kn}(k:bH F){mp p v:Nat}(h:p<F.aS.length):(F.l mp).take (14+p)++[wv v]++(F.l mp).drop (14+p+1)=({F with aS:=F.aS.set p v}:Kn).l mp:=by
 have:=FZ (g:=λn=>wv n) (ca:=F.l mp) (y:=v) (pa:=bv F.has:: .mp mp::(F.aA.map (λn=>wv n)++(F.hours.map (λn=>wv n)++F.less.map (λn=>wv n)))) (ra:=F.first.map iv) (by simp[Kn.l]) (show _=14 by simp[k.aA,k.hours,k.less]) h;rw[this];simp[Kn.l]
theorem Kn.Ba{F:Kn}{mp:Nat}:(F.l mp)[0]?=some (bv F.has):=rfl
theorem Kn.agi{F:Kn}{mp:Nat}:(F.l mp).drop 1=.mp mp::(F.aA.map (λn=>wv n)++(F.hours.map (λn=>wv n)++(F.less.map (λn=>wv n)++(F.aS.map (λn=>wv n)++F.first.map iv)))):=rfl
theorem Kn.apy{F:Kn}{mp:Nat}:(F.l mp).take 0++[bv true]++(F.l mp).drop (0+1)=({F with has:=true}:Kn).l mp:=rfl
theorem Kn.abL{F:Kn}(k:bH F){mp:Nat}{t:List Int}(ht:t.length=11):(F.l mp).take 17++t.map iv++(F.l mp).drop (17+11)=({F with first:=t}:Kn).l mp:=by
 have e:F.l mp=(bv F.has:: .mp mp::(F.aA.map (λn=>wv n)++(F.hours.map (λn=>wv n)++(F.less.map (λn=>wv n)++F.aS.map (λn=>wv n)))))++F.first.map iv:=by simp[Kn.l]
 have hl:(bv F.has::AV.mp mp::(F.aA.map (λn=>wv n)++(F.hours.map (λn=>wv n)++(F.less.map (λn=>wv n)++F.aS.map (λn=>wv n))))).length=17:=by simp[k.aA,k.hours,k.less,k.aS]
 rw[TU (by rw[Kn.len k];omega),e,TA (by omega),SX (by omega),SY];simp[Kn.l]
structure jc (x:ak)(t:List Int):Prop where
 len:t.length=11
 bB:l7 (t.take 4)
 num:∀p,p<x.pieces.length->∃n:Nat,t[4+p]?=some (n:Int)/\n<9/\0<=iW (t.take 4) (n+t.getD 0 0)
 own:∀s,s<x.aB.length->∃o:Nat,t[8+s]?=some (o:Int)/\o<4
end Tk
def setH (hs:List (List Int)):aa:=.obj (.map (hs.zipIdx.map ee).toArray hs.length)
theorem pQ{H:List aa}{i:Nat}{x:aa}(h:H[i]?=some x):H.set i x=H:=by
 apply Yp;intro j;rw[UR];split
 ·rename_i e;subst e;rw[if_pos (eB h)];exact h.symm
 ·rfl
theorem uw{H L:List aa}{i:Nat}{x:aa}(h:i<H.length):(H++L).set i x=H.set i x++L:=Wy _ _ h
section
variable {lv:Bool}{H:List aa}{k kp:AV->List aa->Prop}
theorem NZ{F:Kn}{t:List Int}(h:bH F)(ht:t.length=11):bH (ju F t):=by
 unfold ju;split
 ·exact h
 ·exact⟨h.aA,h.hours,h.less,h.aS,ht,h.lV,h.mf,h.mu,h.lw,h.h4⟩
theorem Cw{l:List Nat}{i v:Nat}(h:∀n∈l,n<65536)(hv:v<65536):∀n∈l.set i v,n<65536:=λn hn=>by
 rcases UI hn with h'|rfl
 ·exact h n h'
 ·exact hv
theorem Tk.bH.Gx{G:Kn}(h:bH G){i v:Nat}(hv:v<65536):bH {G with aS:=G.aS.set i v}:=⟨h.aA,h.hours,h.less,by simp[h.aS],h.first,h.lV,h.mf,h.mu,Cw h.lw hv,h.h4⟩
theorem Tk.bH.abQ{G:Kn}(h:bH G){i v:Nat}(hv:v<65536):bH {G with aA:=G.aA.set i v}:=⟨by simp[h.aA],h.hours,h.less,h.aS,h.first,Cw h.lV hv,h.mf,h.mu,h.lw,h.h4⟩
theorem Tk.bH.abO{G:Kn}(h:bH G){i v:Nat}(hv:v<65536):bH {G with hours:=G.hours.set i v}:=⟨h.aA,by simp[h.hours],h.less,h.aS,h.first,h.lV,Cw h.mf hv,h.mu,h.lw,h.h4⟩
theorem Tk.bH.abP{G:Kn}(h:bH G){i v:Nat}(hv:v<65536):bH {G with less:=G.less.set i v}:=⟨h.aA,h.hours,by simp[h.less],h.aS,h.first,h.lV,h.mf,Cw h.mu hv,h.lw,h.h4⟩
theorem Dx{l:List Nat}{i n v:Nat}(h:l[i]?=some n):oh l i v=l.set i (n|||2^v):=by
 unfold oh;rw[SE,h];rfl
theorem abN(hs:List (List Int)):setH hs=.obj (.map (hs.zipIdx.map ee).toArray hs.length):=rfl
theorem abM(hs:List (List Int))(h:List Int):setH (hs++[h])=.obj (.map ((hs.zipIdx++[(h,hs.length)]).map ee).toArray (hs.length+1)):=by
 rw[abN,List.zipIdx_append,S9];simp
theorem Da{α:Type}{l:List α}{y:α×Nat}(h:y∈l.zipIdx):y.1∈l:=by
 obtain⟨a,b⟩:=y;have:=List.mem_zipIdx h;simp at this;rw[this.2];exact VQ _
theorem II{x:List Int}{hs:List (List Int)}:(pc x hs.zipIdx 0=none/\x∉hs)\/(∃i b,pc x hs.zipIdx 0=some (i,.bool true)/\hs.zipIdx[i]?=some (x,b)/\x∈hs):=by
 cases h:pc x hs.zipIdx 0 with
 |none=>
  refine .inl ⟨rfl,λhm=> ?_⟩;obtain⟨i,hi⟩:=UO.1 hm;have:(x,i)∈hs.zipIdx:=UO.2 ⟨i,by rw[List.getElem?_zipIdx,hi];simp⟩;exact Pf h _ this rfl
 |some p=>
  obtain⟨i,v⟩:=p;obtain⟨b,_,h2,rfl⟩:=Pg h;rw[ZY]at h2;exact .inr ⟨i,b,rfl,h2,Da (y:=(x,b)) (Ti h2)⟩
theorem F.i3:∃i,SC.info? 3=some i/\i.size=1:=by
 obtain⟨i,h1,h2⟩:=Tq.1 F.R0;exact⟨i,h1,h2⟩
theorem uu{H L:List aa}{i:Nat}{z:aa}(h:i<H.length):(H.set i z++L)[i]?=some z:=by
 rw[SZ (by simpa using h),UR,if_pos rfl,if_pos h]
theorem uv{H L:List aa}{i:Nat}{z y:aa}(h:i<H.length):(H.set i z++L).set i y=H.set i y++L:=by
 rw[uw (by simpa using h),W8]
theorem ahV{x:ak}{t:List Int}{deep:Int}{fp mp:Nat}{Q:Kn}(hx:x.Ok)(ht:jc x t)(hQ:bH Q)(lK:fp≠mp)(hf:H[fp]?=some (.cells (Q.l mp) 88))(hm:H[mp]?=some (setH Q.aK))(hk:k (.aJ []) ((H.set fp (.cells ((ej x deep Q t).l mp) 88)).set mp (setH (ej x deep Q t).aK))):ba lv SC 99 H [.op fp 0,x.av,.agg (t.map iv),iv deep] k kp:=by
 refine bE (rs:=[]) (nt:=135) Tryz.f99 λhH hA=> ?_;simp only[bk,SW,ak.av];have jK:=ht.len;have IZ:(t.map iv).length=11:=by rw[Tn,jK]
 have lJ:=eB hf;have BR:=eB hm;have QU:=Kn.len hQ mp;have bP:x.l=[iv x.first,iv x.hours,iv x.an,dS x.seen,aZ x.pieces,aZ x.aB]:=rfl;have dj:∀(L:List aa) i,(H++L)[H.length+i]?=L[i]?:=λL i=>a_ H L i;obtain⟨R1,pj⟩:∃R1,R1=ju Q t:=⟨_,rfl⟩;have mR:bH R1:=by rw[pj];exact NZ hQ jK
 have Bp:R1.aK=Q.aK:=by rw[pj];unfold ju;split<;>rfl
 obtain⟨H1,kU⟩:∃H1,H1=H.set fp (.cells (R1.l mp) 88):=⟨_,rfl⟩;have cG:H1.length=H.length:=by rw[kU,TQ]
 have wL:H1[fp]?=some (.cells (R1.l mp) 88):=by rw[kU,UR,if_pos rfl,if_pos lJ]
 have Ef:H1[mp]?=some (setH R1.aK):=by rw[kU,T5 lK,Bp];exact hm
 have ake:∀G:Kn,∀hs:List (List Int),bM ((H1.set fp (.cells (G.l mp) 88)).set mp (setH hs)):=λG hs=>by
  have hl:((H1.set fp (.cells (G.l mp) 88)).set mp (setH hs)).length=H.length:=by rw[TQ,TQ,cG]
  intro z hz;rw[hl];rcases UI hz with hz|rfl
  ·rcases UI hz with hz|rfl
   ·rw[kU]at hz;rcases UI hz with hz|rfl
    ·exact hH z hz
    ·intro a ha;simp only[Kn.l,SL,SS,Tm]at ha;rcases ha with rfl|rfl|⟨_,_,rfl⟩|⟨_,_,rfl⟩|⟨_,_,rfl⟩|⟨_,_,rfl⟩|⟨_,_,rfl⟩
     ·exact .val _
     ·exact .mp (by omega)
     all_goals exact .val _
   ·intro a ha;simp only[Kn.l,SL,SS,Tm]at ha;rcases ha with rfl|rfl|⟨_,_,rfl⟩|⟨_,_,rfl⟩|⟨_,_,rfl⟩|⟨_,_,rfl⟩|⟨_,_,rfl⟩
    ·exact .val _
    ·exact .mp (by omega)
    all_goals exact .val _
  ·trivial
 have g_:k (.aJ []) ((H1.set fp (.cells ((ej x deep Q t).l mp) 88)).set mp (setH (ej x deep Q t).aK)):=by rw[kU,W8];exact hk
 have dT:∀(G:Kn)(hs:List (List Int))(L:List aa),ej x deep Q t=G->G.aK=hs->cy H1.length ((H1.set fp (.cells (G.l mp) 88)).set mp (setH hs)++L) (.aJ []) k:=λG hs L hG iq=>by
  subst hG iq;exact jy (Wk.refl _) rfl (by rw[TQ,TQ,cG];exact SQ _) (ake _ _) (by simp[jm]) g_
 have aF:ej x deep Q t=(if deep=2 then{R1 with aS:=mw t x.aB.length R1.aS}else if deep=0 then{R1 with aK:=jn R1.aK (t.take 4)}else{R1 with aA:=qZ t x.pieces.length R1.aA,hours:=vE t x.pieces.length R1.hours,less:=xw t x.pieces.length x.pieces.length R1.less}):=by rw[pj];rfl
 rw[aF]at dT;clear hk g_ aF;refine ai ?_;refine aj ?_;simp only[seval,fA hf,Kn.Ba];refine aE ?_;refine⟨λhc=> ?ga,λhc=> ?gb⟩
 case' ga=>
  have e1:R1={Q with has:=true,first:=t}:=by rw[pj];unfold ju;rw[hc];rfl
  have eH:∀L:List aa,(H++L).set fp (.cells (({Q with has:=true}:Kn).l mp) 88)=H.set fp (.cells (({Q with has:=true}:Kn).l mp) 88)++L:=λL=>uw lJ;have En:bH {Q with has:=true}:=⟨hQ.aA,hQ.hours,hQ.less,hQ.aS,hQ.first,hQ.lV,hQ.mf,hQ.mu,hQ.lw,hQ.h4⟩;have ajU:=Kn.len En mp;have Gt:=Kn.abL En (mp:=mp) (t:=t) jK;have zl:Un 11 (t.map iv)=t.map iv:=SX (by omega);have ajE:∀(z:aa)(L:List aa),(H.set fp z++L)[H.length+1]?=L[1]?:=λz L=>by have:=a_ (H.set fp z) L 1;rwa [TQ]at this
  refine qi [5,8] (SV 9) (λD=>bif isDone 8 D then H1++[.cells x.l 76,.cells (t.map iv) 86]else bif isDone 5 D then H.set fp (.cells (({Q with has:=true}:Kn).l mp) 88)++[.cells x.l 76,.cells (t.map iv) 86]else H++[.cells x.l 76,.cells (t.map iv) 86]) ?_;simp only[seval,fA hf,uu lJ,uv lJ,uw lJ,QU,ajU,jK,IZ,zl,ajE];have eL:(AV.val (.bool true)::(Un 16 (Ur 1 (Q.l mp))++t.map iv++Ur 27 (Ur 1 (Q.l mp))))=R1.l mp:=by rw[e1];exact Gt
  refine⟨by rfl,by rw[Uh,QU];omega,by rw[eL,kU],?_⟩;rw[eL,<- kU,<- cG]
 case' gb=>
  have e1:R1=Q:=by rw[pj];unfold ju;rw[hc];rfl
  have Ii:H1=H:=by rw[kU,e1];exact pQ hf
  refine aN ?_;rw[<- Ii]
 all_goals
  clear hc e1;have kY:fp<H1.length:=by omega
  have bh:∀(L:List aa),(H1++L)[H1.length]?=L[0]?:=λL=>a_ H1 L 0;have di:∀(L:List aa),(H1++L)[H1.length+1]?=L[1]?:=λL=>a_ H1 L 1;have dE:∀(z:aa)(L:List aa),(H1.set fp z++L)[H1.length]?=L[0]?:=λz L=>by have:=a_ (H1.set fp z) L 0;rwa [TQ]at this
  have dF:∀(z:aa)(L:List aa),(H1.set fp z++L)[H1.length+1]?=L[1]?:=λz L=>by have:=a_ (H1.set fp z) L 1;rwa [TQ]at this
  have Fb:∀G:Kn,G.aK=R1.aK->(H1.set fp (.cells (G.l mp) 88)).set mp (setH R1.aK)=H1.set fp (.cells (G.l mp) 88):=λG _=>pQ (by rw[T5 lK];exact Ef);refine ai ?_;refine ai ?_;refine aE ?_;refine⟨λh2=> ?_,λh2=> ?_⟩
  ·
   replace h2:deep=2:=(by simpa using h2);have xf:=hx.eP;rw[if_pos h2]at dT;refine aj ?_;simp only[seval,bh,bP,aZ];refine cF ?_;refine gA x.aB.length (λi:Nat=>[(30,iv i)]) (λi=>H1.set fp (.cells (({R1 with aS:=mw t i R1.aS}:Kn).l mp) 88)++[.cells x.l 76,.cells (t.map iv) 86]) (λi=>bH {R1 with aS:=mw t i R1.aS}) (λ_ _=>rfl) (by simp only[seval];simp[bN,Wk.refl]) (by rw[show ({R1 with aS:=mw t 0 R1.aS}:Kn)=R1 from rfl,pQ wL];rfl) (λ_ _ _=>by simp) mR (λbT cW i b_ ay R hR=> ?_);refine ai ?_;refine aE ?_;refine⟨λh3=> ?_,λh3=> ?_⟩
   ·have bt:i<x.aB.length:=(by omega);obtain⟨o,ho,ho4⟩:=ht.own i bt;have pG:rk t i=o:=(by unfold rk;rw[SE,ho];rfl);obtain⟨n,hn⟩:=cC (xs:=mw t i R1.aS) (i:=i) (by have:=ay.aS;simp only at this;omega);have BT:n<65536:=ay.lw n (Ti hn);have b3:(0<=(i:Int)/\(i:Int)<3)=True:=(by simp;omega);have bQ:SF.wrap ((i:Int)+1)=((i+1:Nat):Int):=(by rw[bC _ (by omega)];rfl);have za:=Kn.CH ay (mp:=mp) (p:=i) (n:=n) hn;have qJ:=Kn.aa8 ay (mp:=mp) (p:=i) (v:=n|||2^o) (eB hn);have dc:=Kn.len ay mp;refine aN ?_;refine ai ?_;refine eo 15 ?_;simp only[seval,dF,uu kY,uv kY,b3,za,kv ho];refine ie (wv (n|||2^o)) (dC (tx BT (show o<16 by omega) ⟨rfl,rfl⟩)) ?_;(try simp only[seval,uu kY,uv kY,b3,dc]);refine⟨by omega,?_⟩;rw[qJ];refine aj ?_;simp only[seval,bQ];have cU:mw t (i+1) R1.aS=(mw t i R1.aS).set i (n|||2^o):=(by rw[mw,pG,Dx hn]);refine hR _ ⟨bt,?_,?_⟩
    ·rw[cU];exact ay.Gx (oS BT (v5 (by omega)))
    ·rw[cU];exact dn
   ·have dl:i=x.aB.length:=(by omega);subst dl;have:=dT _ R1.aK [.cells x.l 76,.cells (t.map iv) 86] rfl rfl;rw[Fb {R1 with aS:=mw t x.aB.length R1.aS} rfl]at this;refine b9 ?_;refine aX ?_;exact this
  ·replace h2:¬deep=2:=(by simpa using h2);rw[if_neg h2]at dT;refine ai ?_;refine aE ?_;refine⟨λh3=> ?_,λh3=> ?_⟩
   ·
    replace h3:deep=0:=(by simpa using h3);rw[if_pos h3]at dT;have Ca:(t.take 4).length=4:=(by simp[jK]);have so:∀L:List aa,(H1++L)[mp]?=some (.obj (.map (R1.aK.zipIdx.map ee).toArray R1.aK.length)):=λL=>fA Ef;have hfp:∀L:List aa,(H1++L)[fp]?=some (.cells (R1.l mp) 88):=λL=>fA wL;have Q9:mp<H1.length:=(by omega);obtain⟨i3,pq,oK⟩:=F.i3;have I0:∀y∈R1.aK.zipIdx,y.1.length=4:=λy hy=>mR.h4 _ (Da hy);have EE:=aco (ts:=R1.aK.zipIdx) F.C2 F.u3 pq oK Ca I0;have EA:=λb=>ack (b:=b) (k:=.i64) (d:=9998) F.C2 F.u3 pq oK Ca;refine eo 6 ?_;simp only[seval,hfp,di,so,Kn.agi,jK,IZ];rw[<- VE];refine dV (xH _) (dV rfl ⟨EA _,_,EE,?_,?_⟩)
    ·intro i v w8;rcases II (x:=t.take 4) (hs:=R1.aK)with⟨h,_⟩|⟨i',b,h,h2,_⟩
     ·rw[h]at w8;cases w8
     ·rw[h]at w8;cases w8;rw[To,h2];exact apd _
    ·rcases II (x:=t.take 4) (hs:=R1.aK)with⟨h,hn⟩|⟨i',b,h,h2,hn⟩
     ·rw[h,abf,uw Q9];have:=dT _ _ [.cells x.l 76,.cells (t.map iv) 86] rfl rfl;rw[show jn R1.aK (t.take 4)=R1.aK++[t.take 4] by rw[jn,if_neg hn],abM]at this;rw[show H1.set fp (.cells (({R1 with aK:=R1.aK++[t.take 4]}:Kn).l mp) 88)=H1 from pQ wL]at this;refine aX ?_;exact this
     ·rw[h,anV h2,uw Q9];have:=dT _ _ [.cells x.l 76,.cells (t.map iv) 86] rfl rfl;rw[show jn R1.aK (t.take 4)=R1.aK by rw[jn,if_pos hn],abN]at this;rw[show H1.set fp (.cells (({R1 with aK:=R1.aK}:Kn).l mp) 88)=H1 from pQ wL]at this;refine aX ?_;exact this
   ·
    replace h3:¬deep=0:=(by simpa using h3);rw[if_neg h3]at dT;refine aN ?_;have m9:=hx.cZ;obtain⟨P,hP⟩:∃P:Nat->Kn,∀p,P p={R1 with aA:=qZ t p R1.aA,hours:=vE t p R1.hours,less:=xw t x.pieces.length p R1.less}:=⟨_,λ_=>rfl⟩;obtain⟨P',Em⟩:∃P':Nat->Nat->Kn,∀p q,P' p q={R1 with aA:=qZ t (p+1) R1.aA,hours:=vE t (p+1) R1.hours,less:=vK t p q (xw t x.pieces.length p R1.less)}:=⟨_,λ_ _=>rfl⟩;have P2:P 0=R1:=(by rw[hP];rfl);have hPs:∀p,P' p x.pieces.length=P (p+1):=λp=>(by rw[hP,Em];rfl);refine aj ?_;simp only[seval,bh,bP,aZ];refine cF ?_;refine gA x.pieces.length (λi:Nat=>[(62,iv i)]) (λi=>H1.set fp (.cells ((P i).l mp) 88)++[.cells x.l 76,.cells (t.map iv) 86]) (λi=>bH (P i)) (λ_ _=>rfl) (by simp only[seval];simp[bN,Wk.refl]) (by rw[P2,pQ wL];rfl) (λ_ _ _=>by simp) (by rw[P2];exact mR) (λbT cW p b_ ay R hR=> ?_);refine ai ?_;refine aE ?_;refine⟨λh=> ?_,λh=> ?_⟩
    ·have dc:p<x.pieces.length:=(by omega);obtain⟨o,ho,ho9,pG⟩:=ht.num p dc;obtain⟨n,hn⟩:=cC (xs:=(P p).aA) (i:=p) (by have:=ay.aA;omega);obtain⟨m,fG⟩:=cC (xs:=(P p).hours) (i:=p) (by have:=ay.hours;omega);have BT:n<65536:=ay.lV n (Ti hn);have Q2:m<65536:=ay.mf m (Ti fG);have b4:(0<=(p:Int)/\(p:Int)<4)=True:=(by simp;omega);have bQ:SF.wrap ((p:Int)+1)=((p+1:Nat):Int):=(by rw[bC _ (by omega)];rfl);have za:=Kn.F3 (mp:=mp) hn;have qJ:=Kn.aaP (mp:=mp) (p:=p) (v:=n|||2^o) (eB hn);have Km:=Kn.len ay mp;have lh:lY t p=o:=(by unfold lY;rw[SE,ho];rfl);refine aN ?_;refine ai ?_;refine eo 15 ?_;simp only[seval,dF,uu kY,uv kY,b4,za,kv ho];refine ie (wv (n|||2^o)) (dC (tx BT (show o<16 by omega) ⟨rfl,rfl⟩)) ?_;(try simp only[seval,uu kY,uv kY,b4,Km]);refine⟨by omega,?_⟩;rw[qJ];obtain⟨c0,wV⟩:=cC (xs:=t) (i:=0) (by omega);have Ey:t.getD 0 0=c0:=(by rw[SE,wV];rfl);rw[Ey]at pG;have Qm:c0∈t.take 4:=by
      match t,jK,wV with
      |a::t',_,wV=>cases wV;simp
     have oE:=ht.bB.lo c0 Qm;have EI:=ht.bB.hi c0 Qm;have gP:SF.wrap ((o:Int)+c0)=(o:Int)+c0:=bC _ (by omega);have ajc:(t.map iv)[0]?=some (iv c0):=(by rw[To,wV];rfl);obtain⟨u,hu⟩:=Int.eq_ofNat_of_zero_le pG;have hu4:u<4:=by
      have h5:iW (t.take 4) ((o:Int)+c0)<0+(t.take 4).length:=acF;rw[ht.bB.len,hu]at h5;omega
     have hth:CV t p=u:=by
      unfold CV;rw[SE,ho,Ey];simp only[S8];rw[hu];rfl
     obtain⟨G1,Bi⟩:∃G1,G1=({P p with aA:=(P p).aA.set p (n|||2^o)}:Kn):=⟨_,rfl⟩;have Bj:bH G1:=(by rw[Bi];exact ay.abQ (oS BT (v5 (by omega))));have J3:G1.hours[p]?=some m:=(by rw[Bi];exact fG);rw[<- Bi];have Rt:=Kn.Kh Bj (mp:=mp) J3;have Rv:=Kn.Rm Bj (mp:=mp) (p:=p) (v:=m|||2^u) (eB J3);have Ru:=Kn.len Bj mp;refine eo 22 ?_;simp only[seval,dF,uu kY,uv kY,b4,Rt,kv ho,IZ,jK,gP];rw[<- VE];refine dV ajc ?_;(try simp only[seval,gP]);refine ie (iv u) (dC (Pd (h:=t.take 4) (n:=(o:Int)+c0) ht.bB.len ⟨by rw[hu],rfl⟩)) ?_;refine ie (wv (m|||2^u)) (dC (tx Q2 (show u<16 by omega) ⟨rfl,rfl⟩)) ?_;(try simp only[seval,uu kY,uv kY,b4,Ru]);refine⟨by omega,?_⟩;rw[Rv];have Jb:({G1 with hours:=G1.hours.set p (m|||2^u)}:Kn)=P' p 0:=by
      rw[Bi,Em];simp only[hP]at hn fG⊢;rw[qZ,lh,Dx hn,vE,hth,Dx fG];rfl
     have aiY:bH (P' p 0):=(by rw[<- Jb];exact Bj.abO (oS Q2 (v5 (by omega))));rw[Jb];clear qJ za Km Bj J3 Rt Rv Ru Jb Bi hn fG ay;refine aj ?_;simp only[seval,dE,bP,aZ];refine cF ?_;refine gA x.pieces.length (λi:Nat=>[(108,iv i)]) (λi=>H1.set fp (.cells ((P' p i).l mp) 88)++[.cells x.l 76,.cells (t.map iv) 86]) (λi=>bH (P' p i)) (λ_ _=>rfl) (by simp only[seval];simp[bN,Wk.refl]) rfl (λ_ _ _=>by simp) aiY (λPX asy q E_ oI R' P4=> ?_);refine ai ?_;refine aE ?_;refine⟨λh=> ?_,λh=> ?_⟩
     ·have lO:q<x.pieces.length:=(by omega);obtain⟨o2,Rf,asK,_⟩:=ht.num q lO;have b4q:(0<=(q:Int)/\(q:Int)<4)=True:=(by simp;omega);have t_:SF.wrap ((q:Int)+1)=((q+1:Nat):Int):=(by rw[bC _ (by omega)];rfl);have cU:P' p (q+1)={P' p q with less:=if o<o2 then oh (P' p q).less p q else(P' p q).less}:=by
       rw[Em,Em,vK];simp only[SE,ho,Rf,S8];by_cases hlt:o<o2
       ·rw[if_pos (by omega),if_pos hlt]
       ·rw[if_neg (by omega),if_neg hlt]
      refine aN ?_;refine ai ?_;refine eo 8 ?_;simp only[seval,dF,b4,b4q,kv ho,kv Rf];refine aE ?_;refine⟨λh=> ?_,λh=> ?_⟩
      ·have hlt:o<o2:=(by simpa using h);rw[if_pos hlt]at cU;obtain⟨v,hv⟩:=cC (xs:=(P' p q).less) (i:=p) (by have:=oI.less;omega);have Fq:v<65536:=oI.mu v (Ti hv);have aki:=Kn.Lu oI (mp:=mp) hv;have akm:=Kn.SA oI (mp:=mp) (p:=p) (v:=v|||2^q) (eB hv);have akl:=Kn.len oI mp;rw[Dx hv]at cU;refine eo 12 ?_;simp only[seval,uu kY,uv kY,b4,aki];refine ie (wv (v|||2^q)) (dC (tx Fq (show q<16 by omega) ⟨rfl,rfl⟩)) ?_;(try simp only[seval,uu kY,uv kY,b4,akl]);refine⟨by omega,?_⟩;rw[akm,<- cU];refine aj ?_;simp only[seval,t_];refine P4 _ ⟨lO,?_,?_⟩
       ·rw[cU];exact oI.abP (oS Fq (v5 (by omega)))
       ·exact dn
      ·have hlt:¬o<o2:=(by simpa using h);rw[if_neg hlt]at cU;refine aN ?_;refine aj ?_;simp only[seval,t_];rw[show ({P' p q with less:=(P' p q).less}:Kn)=P' p q from rfl]at cU;refine P4 _ ⟨lO,?_,?_⟩
       ·rw[cU];exact oI
       ·rw[cU];exact dn
     ·have hqe:q=x.pieces.length:=(by omega);subst hqe;rw[hPs]at oI⊢;refine b9 ?_;refine aj ?_;simp only[seval,bQ];exact hR _ ⟨dc,oI,dn⟩
    ·have gO:p=x.pieces.length:=(by omega);subst gO;have:=dT _ R1.aK [.cells x.l 76,.cells (t.map iv) 86] rfl rfl;rw[<- hP,Fb (P _) (by rw[hP])]at this;refine b9 ?_;exact this
end
open Go.Conc Go.Proofs Go.Gg.Tk
namespace Tk
def gE (F:Kn)(hs:List (List Int))(G:Kn):Kn:=if G.has then⟨true,hs.foldl jn F.aK,lr F.aA G.aA,lr F.hours G.hours,lr F.less G.less,lr F.aS G.aS,if F.has=false\/rO G.first F.first then G.first else F.first⟩else F
def ni (l m:List Nat):Nat->List Nat
 |0=>l
 |i+1=>(ni l m i).set i ((ni l m i).getD i 0|||m.getD i 0)
end Tk
theorem Ga{l m:List Nat}{i a b:Nat}(ha:(ni l m i)[i]?=some a)(hb:m[i]?=some b):ni l m (i+1)=(ni l m i).set i (a|||b):=by
 rw[ni,SE,SE,ha,hb];rfl
theorem anf{l m:List Nat}(h:l.length=m.length){i:Nat}(hi:i<=l.length):ni l m i=lr (l.take i) (m.take i)++l.drop i:=by
 induction i with
 |zero=>simp[ni,lr]
 |succ i ih=>
  have hl:i<l.length:=by omega
  have hm:i<m.length:=by omega
  have e1:(lr (l.take i) (m.take i)).length=i:=by simp[lr];omega
  have e2:(ni l m i).getD i 0=l[i]:=by
   rw[ih (by omega),SE,Tj (by omega),e1];simp[hl]
  rw[ni,e2,ih (by omega),UN _ _ (by omega),e1,Vd,SE,SP hm,S8,T8 hl,TZ,VG,VG,SP hl,SP hm,YQ,YQ];unfold lr;rw[List.zipWith_append (by simp;omega)];simp
theorem F'{l m:List Nat}(h:l.length=m.length){n:Nat}(hn:l.length=n):ni l m n=lr l m:=by
 subst hn;rw[anf h (SQ _),h,TH,TU (by omega),SY,<- h,TH]
theorem agY{lv:Bool}{H:List aa}{k kp:AV->List aa->Prop}{fp mp mg:Nat}{Q G:Kn}(hQ:bH Q)(hG:bH G)(lK:fp≠mp)(vv:mg≠mp)(hf:H[fp]?=some (.cells (Q.l mp) 88))(hm:H[mp]?=some (setH Q.aK))(hg:H[mg]?=some (setH G.aK))(vC:G.aK.Nodup)(hk:∀hs:List (List Int),hs.Perm G.aK->k (.aJ []) ((H.set fp (.cells ((gE Q hs G).l mp) 88)).set mp (setH (gE Q hs G).aK))):ba lv SC 102 H [.op fp 0,.agg (G.l mg)] k kp:=by
 refine bE (rs:=[]) (nt:=121) Tryz.f102 λhH hA=> ?_;simp only[bk,SW];have lJ:=eB hf;have BR:=eB hm;have nO:=eB hg;have EF:=Kn.len hG mg;have EZ:=Kn.len hQ mp;have sh:(G.l mg).drop 17=G.first.map iv:=by
  have e:G.l mg=(bv G.has:: .mp mg::(G.aA.map (λn=>wv n)++(G.hours.map (λn=>wv n)++(G.less.map (λn=>wv n)++G.aS.map (λn=>wv n)))))++G.first.map iv:=by simp[Kn.l]
  rw[e,Wp (by simp[hG.aA,hG.hours,hG.less,hG.aS]),TU (by simp[hG.aA,hG.hours,hG.less,hG.aS])];rfl
 refine ai ?_;refine aj ?_;simp only[seval,Kn.Ba];refine aE ?_;refine⟨λh=> ?_,λh=> ?_⟩
 ·
  have JH:G.has=false:=by simpa using h
  have:=hk G.aK (ac' _);rw[gE,JH]at this;simp only[TN,if_false]at this;rw[pQ hf,pQ hm]at this;refine aX ?_;exact jx hH (Wk.refl _) (by simp[jm]) this
 ·have JH:G.has=true:=by simpa using h
  refine aN ?_;obtain⟨R1,pj⟩:∃R1,R1=(if Q.has=false\/rO G.first Q.first=true then{Q with first:=G.first}else Q):=⟨_,rfl⟩;have mR:bH R1:=by
   rw[pj];split
   ·exact⟨hQ.aA,hQ.hours,hQ.less,hQ.aS,hG.first,hQ.lV,hQ.mf,hQ.mu,hQ.lw,hQ.h4⟩
   ·exact hQ
  have Bp:R1.aK=Q.aK:=by rw[pj];split<;>rfl
  obtain⟨H1,kU⟩:∃H1,H1=H.set fp (.cells (R1.l mp) 88):=⟨_,rfl⟩;have bh:∀(L:List aa),(H++L)[H.length]?=L[0]?:=λL=>a_ H L 0;have dE:∀(z:aa)(L:List aa),(H.set fp z++L)[H.length]?=L[0]?:=λz L=>by have:=a_ (H.set fp z) L 0;rwa [TQ]at this
  have jK:=hG.first;have zl:Un 11 (G.first.map iv)=G.first.map iv:=SX (by rw[Tn];omega);have Gt:Un 17 (Q.l mp)++G.first.map iv++Ur 28 (Q.l mp)=({Q with first:=G.first}:Kn).l mp:=Kn.abL hQ jK;have Rw:(Q.l mp).drop 17=Q.first.map iv:=by
   have e:Q.l mp=(bv Q.has:: .mp mp::(Q.aA.map (λn=>wv n)++(Q.hours.map (λn=>wv n)++(Q.less.map (λn=>wv n)++Q.aS.map (λn=>wv n)))))++Q.first.map iv:=(by simp[Kn.l]);rw[e,Wp (by simp[hQ.aA,hQ.hours,hQ.less,hQ.aS]),TU (by simp[hQ.aA,hQ.hours,hQ.less,hQ.aS])];rfl
  have RJ:Un 11 (Q.first.map iv)=Q.first.map iv:=SX (by rw[Tn,hQ.first];exact SQ _);have cG:H1.length=H.length:=by rw[kU,TQ]
  cases EY:Q.has
  case' true=>
   refine eo 12 ?_;simp only[seval,fA hf,Kn.Ba,EY,bh,sh,Rw,EF,EZ,zl,RJ];refine⟨by omega,by have:=hQ.first;omega,?_⟩;refine aM ((ag6 hG.first hQ.first ?_));(try simp only[seval]);refine aE ?_;refine⟨λhb=> ?tt,λhb=> ?tf⟩
  case' false=>
   refine eo 12 ?_;simp only[seval,fA hf,Kn.Ba,EY,bh,sh,Rw,EF,EZ,zl,RJ];refine aE ?_
  case' tt=>
   have e1:R1={Q with first:=G.first}:=(by rw[pj,if_pos (.inr hb)]);refine aj ?_;simp only[seval,fA hf,bh,sh,EF,EZ,zl,jK,uw lJ];rw[Gt,<- e1,<- kU,<- cG]
  case' tf=>
   have e1:R1=Q:=(by rw[pj,if_neg (by rw[EY,hb];simp)]);have Ii:H1=H:=(by rw[kU,e1];exact pQ hf);refine aN ?_;rw[<- Ii]
  case' false=>
   have e1:R1={Q with first:=G.first}:=(by rw[pj,if_pos (.inl EY)]);refine aj ?_;simp only[seval,fA hf,bh,sh,EF,EZ,zl,jK,uw lJ];rw[Gt,<- e1,<- kU,<- cG]
  all_goals
   clear e1;have kY:fp<H1.length:=(by omega);have wL:H1[fp]?=some (.cells (R1.l mp) 88):=(by rw[kU,UR,if_pos rfl,if_pos lJ]);have Ef:H1[mp]?=some (setH R1.aK):=(by rw[kU,T5 lK,Bp];exact hm);have QB:fp≠mg:=λe=>(by subst e;rw[hf]at hg;cases hg);have h1g:H1[mg]?=some (setH G.aK):=(by rw[kU,T5 QB];exact hg);obtain⟨R2,tF⟩:∃R2,R2=({R1 with has:=true}:Kn):=⟨_,rfl⟩;have eL:AV.val (.bool true)::Ur 1 (R1.l mp)=R2.l mp:=(by rw[tF];rfl);have Jd:R2.aK=Q.aK:=(by rw[tF];exact Bp);have tG:bH R2:=(by rw[tF];exact⟨mR.aA,mR.hours,mR.less,mR.aS,mR.first,mR.lV,mR.mf,mR.mu,mR.lw,mR.h4⟩);refine aj ?_;simp only[seval,fA wL,uw kY,Kn.apy];refine⟨by have:=Kn.len mR mp;omega,?_⟩;rw[eL];obtain⟨B,hB⟩:∃B:Kn->List (List Int)->List aa,∀K hs,B K hs=(H1.set fp (.cells (K.l mp) 88)).set mp (setH hs):=⟨_,λ_ _=>rfl⟩;have fB:∀K hs,(B K hs).length=H1.length:=λK hs=>(by rw[hB,TQ,TQ]);have PQ:∀K hs (L:List aa),(B K hs++L)[mp]?=some (.obj (.map (hs.zipIdx.map ee).toArray hs.length)):=λK hs L=>by
    rw[SZ (by rw[fB];omega),hB,UR,if_pos rfl,if_pos (by rw[TQ];omega)];rfl
   have Ei:∀K hs (L:List aa),(B K hs++L)[mg]?=some (.obj (.map (G.aK.zipIdx.map ee).toArray G.aK.length)):=λK hs L=>by
    rw[SZ (by rw[fB];omega),hB,T5 (λe=>vv e.symm),T5 QB,h1g];rfl
   have nE:∀K hs (L:List aa),(B K hs++L)[fp]?=some (.cells (K.l mp) 88):=λK hs L=>by
    rw[SZ (by rw[fB];omega),hB,T5 (λe=>lK e.symm),UR,if_pos rfl,if_pos (by omega)]
   have aiW:∀K hs oJ (L:List aa),(B K hs++L).set mp (setH oJ)=B K oJ++L:=λK hs oJ L=>by
    rw[Wy _ _ (by rw[fB];omega),hB,hB,W8]
   have Ej:∀K hs K' (L:List aa),(B K hs++L).set fp (.cells (K'.l mp) 88)=B K' hs++L:=λK hs K' L=>by
    rw[Wy _ _ (by rw[fB];omega),hB,hB,List.set_comm _ _ (λe=>lK e.symm),W8]
   have PR:H1.set fp (.cells (R2.l mp) 88)=B R2 R2.aK:=by
    rw[hB];symm;exact pQ (by rw[T5 lK,Ef,Jd,Bp])
   have bh:∀K hs (L:List aa),(B K hs++L)[H1.length]?=L[0]?:=λK hs L=>(by rw[<- fB K hs];exact a_ _ L 0);have di:∀K hs (L:List aa),(B K hs++L)[H1.length+1]?=L[1]?:=λK hs L=>(by rw[<- fB K hs];exact a_ _ L 1);have kC:∀K hs (L:List aa),(B K hs++L)[H1.length+2]?=L[2]?:=λK hs L=>(by rw[<- fB K hs];exact a_ _ L 2);have JE:(G.l mg).drop 1=.mp mg::((G.l mg).drop 2):=rfl;have PZ:∀K:Kn,(K.l mp).drop 1=.mp mp::((K.l mp).drop 2):=λ_=>rfl;have cz:∀(K:Kn)(hs:List (List Int)),bM (B K hs):=λK hs=>by
    intro z hz;rw[fB];rw[hB]at hz;rcases UI hz with hz|rfl
    ·rcases UI hz with hz|rfl
     ·rw[kU]at hz;rcases UI hz with hz|rfl
      ·exact cG▸hH z hz
      ·intro a ha;simp only[Kn.l,SL,SS,Tm]at ha;rcases ha with rfl|rfl|⟨_,_,rfl⟩|⟨_,_,rfl⟩|⟨_,_,rfl⟩|⟨_,_,rfl⟩|⟨_,_,rfl⟩
       ·exact .val _
       ·exact .mp (by omega)
       all_goals exact .val _
     ·intro a ha;simp only[Kn.l,SL,SS,Tm]at ha;rcases ha with rfl|rfl|⟨_,_,rfl⟩|⟨_,_,rfl⟩|⟨_,_,rfl⟩|⟨_,_,rfl⟩|⟨_,_,rfl⟩
      ·exact .val _
      ·exact .mp (by omega)
      all_goals exact .val _
    ·trivial
   have dT:∀(hs:List (List Int))(K:Kn)(L:List aa),hs.Perm G.aK->gE Q hs G=K->cy H1.length (B K K.aK++L) (.aJ []) k:=λhs K L hp hK=>by
    have:=hk hs hp;rw[hK]at this;subst hK;refine jy (Wk.refl _) rfl (by rw[fB];exact SQ _) (cz _ _) (by simp[jm]) ?_;rw[hB,kU,W8];exact this
   rw[PR];clear hk PR;refine aj ?_;simp only[seval,bh,JE,Ei];rw[fB];have Qj:∀K hs (L:List aa) z,(B K hs++L).set (H1.length+1) z=B K hs++L.set 1 z:=λK hs L z=>by
    rw[UN _ _ (by rw[fB];omega),fB,U7]
   have ajb:∀K hs (L:List aa) z,(B K hs++L).set (H1.length+2) z=B K hs++L.set 2 z:=λK hs L z=>by
    rw[UN _ _ (by rw[fB];omega),fB,U7]
   obtain⟨ts,dL⟩:∃ts,ts=G.aK.zipIdx:=⟨_,rfl⟩;obtain⟨ck,EB⟩:∃ck,ck=G.aK.length:=⟨_,rfl⟩;rw[<- dL,<- EB]at Ei;rw[<- EB];have hb:∀y∈ts,y.2<ck:=λy hy=>(by rw[dL]at hy;have:=List.snd_lt_add_of_mem_zipIdx hy;omega);have BU:(ts.map (·.2)).Nodup:=(by rw[dL,show (λy:List Int×Nat=>y.2)=Prod.snd from rfl,List.zipIdx_map_snd];exact List.nodup_range');have h4:∀y∈ts,y.1.length=4:=λy hy=>(by rw[dL]at hy;exact hG.h4 _ (Da hy));have eI:=N7 ts ck hb;have KJ:ts.map (·.1)=G.aK:=(by rw[dL,show (λy:List Int×Nat=>y.1)=Prod.fst from rfl,List.zipIdx_map_fst]);clear dL;obtain⟨ac,Er⟩:∃ac:List (List Int×Nat)->List (List Int),∀vs,ac vs=vs.foldl (λa y=>jn a y.1) R2.aK:=⟨_,λ_=>rfl⟩;have Qc:ac []=R2.aK:=(by rw[Er];rfl);have Je:∀vs y,ac (vs++[y])=jn (ac vs) y.1:=λvs y=>(by rw[Er,Er,ZO];rfl);obtain⟨i3,pq,oK⟩:=F.i3;refine cF ?_;refine yc (measure λvs:List (List Int×Nat)=>ts.length-vs.length).wf (λvs=>[]) (λvs=>B R2 (ac vs)++[.cells (G.l mg) 88,.iter mg ck (vs.map (·.2)).toArray ck]) (λvs=>(vs.map (·.2)).Nodup/\(∀y∈vs,y∈ts)/\∀h∈ac vs,h.length=4) [] (λ_ _=>rfl) (by simp) (by rw[Qc];rfl) (λ_ _=>by simp[fB]) ⟨by simp,by simp,by rw[Qc,Jd];exact hQ.h4⟩ (λbT cW vs ay R hR=> ?_);refine aj ?_;simp only[seval,di,Ei,Qj];refine⟨eI.elim .inl (λh=> .inr (.inl h)),λe he hn=> ?_,λhs=> ?_⟩
   ·obtain⟨y,hy,rfl⟩:∃y∈ts,ee y=e:=(by simpa using he);refine aE ?_;refine aN ?_;refine cF ?_;have rX:=h4 y hy;have Jl:(ee y).born=y.2:=rfl;have hlen:(y.1.map iv).length=4:=(by simp[rX]);have Ju:Ur 4 [AV.val (SG SF 0),AV.val (SG SF 0),AV.val (SG SF 0),AV.val (SG SF 0)]=[]:=rfl;refine aj ?_;simp only[seval,di,Ei,Qj,ajb,kC,fB,Array.back?_push,Jl,Pj BU hy,aaR,rX,hlen,Ju];refine eo 10 ?_;simp only[seval,nE,PZ,PQ,kC,hlen,rX];have RI:Un 4 (y.1.map iv)=y.1.map iv:=SX (by omega);have I0:∀z∈(ac vs).zipIdx,z.1.length=4:=λz hz=>ay.2.2 _ (Da hz);have EE:=aco (ts:=(ac vs).zipIdx) F.C2 F.u3 pq oK rX I0;have EA:=λb=>ack (b:=b) (k:=.i64) (d:=9998) F.C2 F.u3 pq oK rX;have EX:((vs.map (·.2)).toArray.push y.2)=((vs++[y]).map (·.2)).toArray:=(by simp);have KR:y.2∉vs.map (·.2):=(by simpa[ee]using hn);have sq:((vs++[y]).map (·.2)).Nodup/\(∀z∈vs++[y],z∈ts)/\∀h∈ac (vs++[y]),h.length=4:=by
     refine⟨?_,λz hz=> ?_,λh hh=> ?_⟩
     ·rw[TF,U4];refine⟨ay.1,by simp,λa ha b hb=> ?_⟩;simp at hb;subst hb;intro e;subst e;exact KR ha
     ·rcases SS.1 hz with h|h
      ·exact ay.2.1 z h
      ·rw[S5.1 h];exact hy
     ·rw[Je,jn]at hh;split at hh
      ·exact ay.2.2 _ hh
      ·rcases SS.1 hh with h'|h'
       ·exact ay.2.2 _ h'
       ·rw[S5.1 h'];exact rX
    have hlen:vs.length<ts.length:=by
     have h1:(vs++[y]).Nodup:=CA _ sq.1;have:=h1.length_le_of_subset sq.2.1;simp at this;omega
    have qK:ts.length-(vs++[y]).length<ts.length-vs.length:=(by simp;omega);have EU:∀sn,bM (B R2 (ac (vs++[y]))++[aa.cells (G.l mg) 88,aa.iter mg ck sn ck]):=λsn z hz=>by
     rcases SS.1 hz with h|h
     ·exact(cz _ _ z h).mono (by simp)
     ·have yF:∀a∈G.l mg,Lt H1.length a:=λa ha=>by
       simp only[Kn.l,SL,SS,Tm]at ha;rcases ha with rfl|rfl|⟨_,_,rfl⟩|⟨_,_,rfl⟩|⟨_,_,rfl⟩|⟨_,_,rfl⟩|⟨_,_,rfl⟩
       ·exact .val _
       ·exact .mp (by omega)
       all_goals exact .val _
      simp only[SL,S0,or_false]at h;rcases h with rfl|rfl
      ·intro a ha;exact(yF a ha).mono (by simp[fB])
      ·show mg<_;simp[fB];omega
    rw[RI];refine dV F.Nt (dV (xH _) ⟨EA _,_,EE,?_⟩);rcases II (x:=y.1) (hs:=ac vs)with⟨h,BW⟩|⟨i',b,h,h2,BW⟩
    ·rw[h];(try simp only[seval,AV.found]);refine ai ?_;refine aE ?_;refine eo 5 ?_;simp only[seval,nE,PZ,PQ,kC,hlen,rX];rw[RI];refine dV (xH _) (dV rfl ⟨EA _,_,EE,?_,?_⟩)
     ·intro i v w8;rw[h]at w8;cases w8
     ·rw[h,abf,<- abM,aiW,show ac vs++[y.1]=ac (vs++[y]) by rw[Je,jn,if_neg BW],EX];refine hR _ ⟨vs++[y],qK,sq,?_⟩;exact zL (pI rfl rfl) (by simp only[seval]<;>simp[bN,Wk.refl]) (EU _) (by simp[eE])
    ·rw[h];(try simp only[seval,AV.found]);refine ai ?_;refine aE ?_;refine aN ?_;rw[show ac vs=ac (vs++[y]) by rw[Je,jn,if_pos BW],EX];refine hR _ ⟨vs++[y],qK,sq,?_⟩;exact zL (pI rfl rfl) (by simp only[seval]<;>simp[bN,Wk.refl]) (EU _) (by simp[eE])
   ·have hp:vs.Perm ts:=abA ay.1 BU ay.2.1 λy hy=>by
     have:=hs (ee y) (by simp;exact⟨y.1,y.2,hy,rfl⟩) (hb y hy);simpa[ee]using this
    refine aE ?_;refine b9 ?_;obtain⟨K,hK⟩:∃K:Nat->Nat->Kn,∀i j,K i j={R2 with aA:=ni R2.aA G.aA i,hours:=ni R2.hours G.hours i,less:=ni R2.less G.less i,aS:=ni R2.aS G.aS j}:=⟨_,λ_ _=>rfl⟩;have PY:K 0 0=R2:=(by rw[hK];rfl);refine ai ?_;refine cF ?_;refine gA 4 (λi:Nat=>[(57,iv i)]) (λi=>B (K i 0) (ac vs)++[.cells (G.l mg) 88,.iter mg ck (vs.map (·.2)).toArray ck]) (λi=>bH (K i 0)) (λ_ _=>rfl) (by simp only[seval];simp[bN,Wk.refl]) (by rw[PY]) (λ_ _ _=>by simp[fB]) (by rw[PY];exact tG) (λasv asz i b_ tU R hR=> ?_);refine ai ?_;refine aE ?_;refine⟨λh=> ?_,λh=> ?_⟩
    ·have bt:i<4:=(by omega);obtain⟨a1,qx⟩:=cC (xs:=(K i 0).aA) (i:=i) (by have:=tU.aA;omega);obtain⟨a2,Br⟩:=cC (xs:=(K i 0).hours) (i:=i) (by have:=tU.hours;omega);obtain⟨a3,Ep⟩:=cC (xs:=(K i 0).less) (i:=i) (by have:=tU.less;omega);obtain⟨c1,da⟩:=cC (xs:=G.aA) (i:=i) (by have:=hG.aA;omega);obtain⟨c2,cN⟩:=cC (xs:=G.hours) (i:=i) (by have:=hG.hours;omega);obtain⟨c3,dI⟩:=cC (xs:=G.less) (i:=i) (by have:=hG.less;omega);have Cp:=tU.lV _ (Ti qx);have Sn:=tU.mf _ (Ti Br);have So:=tU.mu _ (Ti Ep);have Cr:=hG.lV _ (Ti da);have Sr:=hG.mf _ (Ti cN);have St:=hG.mu _ (Ti dI);have b4:(0<=(i:Int)/\(i:Int)<4)=True:=(by simp;omega);have bQ:SF.wrap ((i:Int)+1)=((i+1:Nat):Int):=(by rw[bC _ (by omega)];rfl);refine aN ?_;refine ai ?_;obtain⟨Ka,Bn⟩:∃Ka,Ka=({K i 0 with aA:=(K i 0).aA.set i (a1|||c1)}:Kn):=⟨_,rfl⟩;have F5:bH Ka:=(by rw[Bn];exact tU.abQ (oS Cp Cr));have sa:=Kn.aaP (F:=K i 0) (mp:=mp) (p:=i) (v:=a1|||c1) (eB qx);rw[<- Bn]at sa;refine eo 13 ?_;simp only[seval,nE,bh,b4,Kn.F3 qx,Kn.F3 da,AH,Gb Cp Cr,Kn.len tU mp];refine⟨by omega,?_⟩;rw[sa,Ej];obtain⟨Kb,Ek⟩:∃Kb,Kb=({Ka with hours:=Ka.hours.set i (a2|||c2)}:Kn):=⟨_,rfl⟩;have F6:bH Kb:=(by rw[Ek];exact F5.abO (oS Sn Sr));have wT:Ka.hours[i]?=some a2:=(by rw[Bn];exact Br);have sb:=Kn.Rm F5 (mp:=mp) (p:=i) (v:=a2|||c2) (eB wT);rw[<- Ek]at sb;refine eo 13 ?_;simp only[seval,nE,bh,b4,Kn.Kh F5 wT,Kn.Kh hG cN,AH,Gb Sn Sr,Kn.len F5 mp];refine⟨by omega,?_⟩;rw[sb,Ej];have Eu:Kb.less[i]?=some a3:=(by rw[Ek,Bn];exact Ep);have sc:=Kn.SA F6 (mp:=mp) (p:=i) (v:=a3|||c3) (eB Eu);have wO:({Kb with less:=Kb.less.set i (a3|||c3)}:Kn)=K (i+1) 0:=by
      rw[Ek,Bn,hK (i+1)];simp only[hK]at qx Br Ep⊢;rw[Ga qx da,Ga Br cN,Ga Ep dI]
     have LR:bH (K (i+1) 0):=(by rw[<- wO];exact F6.abP (oS So St));rw[wO]at sc;refine eo 13 ?_;simp only[seval,nE,bh,b4,Kn.Lu F6 Eu,Kn.Lu hG dI,AH,Gb So St,Kn.len F6 mp];refine⟨by omega,?_⟩;rw[sc,Ej];refine aj ?_;simp only[seval,bQ];exact hR _ ⟨bt,LR,dn⟩
    ·have dl:i=4:=(by omega);subst dl;refine b9 ?_;refine ai ?_;refine cF ?_;refine gA 3 (λi:Nat=>[(103,iv i)]) (λj=>B (K 4 j) (ac vs)++[.cells (G.l mg) 88,.iter mg ck (vs.map (·.2)).toArray ck]) (λj=>bH (K 4 j)) (λ_ _=>rfl) (by simp only[seval];simp[bN,Wk.refl]) rfl (λ_ _ _=>by simp[fB]) tU (λasw asA j oD y9 R hR=> ?_);refine ai ?_;refine aE ?_;refine⟨λh=> ?_,λh=> ?_⟩
     ·have eV:j<3:=(by omega);obtain⟨a1,qx⟩:=cC (xs:=(K 4 j).aS) (i:=j) (by have:=y9.aS;omega);obtain⟨c1,da⟩:=cC (xs:=G.aS) (i:=j) (by have:=hG.aS;omega);have Cp:=y9.lw _ (Ti qx);have Cr:=hG.lw _ (Ti da);have b3:(0<=(j:Int)/\(j:Int)<3)=True:=(by simp;omega);have bQ:SF.wrap ((j:Int)+1)=((j+1:Nat):Int):=(by rw[bC _ (by omega)];rfl);refine aN ?_;refine ai ?_;have sa:=Kn.aa8 y9 (mp:=mp) (p:=j) (v:=a1|||c1) (eB qx);have wO:({K 4 j with aS:=(K 4 j).aS.set j (a1|||c1)}:Kn)=K 4 (j+1):=by
       rw[hK 4 (j+1)];simp only[hK]at qx⊢;rw[Ga qx da]
      have LR:bH (K 4 (j+1)):=(by rw[<- wO];exact y9.Gx (oS Cp Cr));rw[wO]at sa;refine eo 13 ?_;simp only[seval,nE,bh,b3,Kn.CH y9 qx,Kn.CH hG da,AH,Gb Cp Cr,Kn.len y9 mp];refine⟨by omega,?_⟩;rw[sa,Ej];refine aj ?_;simp only[seval,bQ];exact hR _ ⟨eV,LR,dn⟩
     ·have JU:j=3:=(by omega);subst JU;refine b9 ?_;have Ko:(vs.map (·.1)).Perm G.aK:=by
       have:=hp.map (·.1);rw[KJ]at this;exact this
      have ai1:ac vs=(vs.map (·.1)).foldl jn Q.aK:=(by rw[Er,Jd,List.foldl_map]);have hJ:gE Q (vs.map (·.1)) G={K 4 3 with aK:=ac vs}:=by
       have e2:R2=⟨true,Q.aK,Q.aA,Q.hours,Q.less,Q.aS,if Q.has=false\/rO G.first Q.first=true then G.first else Q.first⟩:=by
        rw[tF,pj];split<;>rfl
       rw[gE,if_pos JH,hK,F' (by rw[tG.aA,hG.aA]) tG.aA,F' (by rw[tG.hours,hG.hours]) tG.hours,F' (by rw[tG.less,hG.less]) tG.less,F' (by rw[tG.aS,hG.aS]) tG.aS,ai1,e2]
      have:=dT (vs.map (·.1)) _ [.cells (G.l mg) 88,.iter mg ck (vs.map (·.2)).toArray ck] Ko hJ;rw[show B ({K 4 3 with aK:=ac vs}:Kn) (ac vs)=B (K 4 3) (ac vs) by rw[hB,hB];rfl]at this;exact this
open Go.Conc Go.Proofs Go.Gg.Tk
namespace Tk
theorem AL{l:List Nat}{i v:Nat}:(oh l i v).length=l.length:=by simp[oh]
theorem Dy{l:List Nat}{i v:Nat}(h:∀n∈l,n<65536)(hv:v<16):∀n∈oh l i v,n<65536:=by
 refine Cw h (oS ?_ (v5 hv));rw[SE];cases hi:l[i]?with
 |none=>exact(by decide:0<65536)
 |some a=>exact h _ (Ti hi)
theorem aqu{x:ak}{t:List Int}(ht:jc x t){p:Nat}(hp:p<x.pieces.length):lY t p<16:=by
 obtain⟨n,h1,h2,_⟩:=ht.num p hp;unfold lY;rw[SE,h1];show n<16;omega
theorem aqt{t:List Int}(h:t.length=11){p:Nat}:CV t p<16:=by
 unfold CV;have h5:iW (t.take 4) (t.getD (4+p) 0+t.getD 0 0)<0+(t.take 4).length:=acF;have:(t.take 4).length=4:=by simp[h]
 omega
theorem aqv{x:ak}{t:List Int}(ht:jc x t){s:Nat}(hs:s<x.aB.length):rk t s<16:=by
 obtain⟨n,h1,h2⟩:=ht.own s hs;unfold rk;rw[SE,h1];show n<16;omega
theorem aa7{x:ak}{t:List Int}(ht:jc x t){l:List Nat}(hl:∀n∈l,n<65536):∀{s:Nat},s<=x.aB.length->(mw t s l).length=l.length/\∀n∈mw t s l,n<65536
 |0,_=>⟨rfl,hl⟩
 |s+1,h=>by
  obtain⟨h1,h2⟩:=aa7 ht hl (s:=s) (by omega);exact⟨AL.trans h1,Dy h2 (aqv ht (by omega))⟩
theorem aaL{x:ak}{t:List Int}(ht:jc x t){l:List Nat}(hl:∀n∈l,n<65536):∀{s:Nat},s<=x.pieces.length->(qZ t s l).length=l.length/\∀n∈qZ t s l,n<65536
 |0,_=>⟨rfl,hl⟩
 |s+1,h=>by
  obtain⟨h1,h2⟩:=aaL ht hl (s:=s) (by omega);exact⟨AL.trans h1,Dy h2 (aqu ht (by omega))⟩
theorem Rl{t:List Int}(ht:t.length=11){l:List Nat}(hl:∀n∈l,n<65536):∀{s:Nat},(vE t s l).length=l.length/\∀n∈vE t s l,n<65536
 |0=>⟨rfl,hl⟩
 |s+1=>by
  obtain⟨h1,h2⟩:=Rl ht hl (s:=s);exact⟨AL.trans h1,Dy h2 (aqt ht)⟩
theorem Sz{t:List Int}{p:Nat}{l:List Nat}(hl:∀n∈l,n<65536):∀{q:Nat},q<=4->(vK t p q l).length=l.length/\∀n∈vK t p q l,n<65536
 |0,_=>⟨rfl,hl⟩
 |q+1,h=>by
  obtain⟨h1,h2⟩:=Sz hl (q:=q) (t:=t) (p:=p) (by omega);unfold vK;split
  ·exact⟨AL.trans h1,Dy h2 (by omega)⟩
  ·exact⟨h1,h2⟩
theorem Sy{t:List Int}{k:Nat}(hk:k<=4){l:List Nat}(hl:∀n∈l,n<65536):∀{p:Nat},(xw t k p l).length=l.length/\∀n∈xw t k p l,n<65536
 |0=>⟨rfl,hl⟩
 |p+1=>by
  obtain⟨h1,h2⟩:=Sy hk hl (p:=p) (t:=t);obtain⟨h3,h4⟩:=Sz h2 (t:=t) (p:=p) hk;exact⟨h3.trans h1,h4⟩
theorem abc{hs:List (List Int)}{h:List Int}(h1:∀y∈hs,y.length=4)(h2:h.length=4):∀y∈jn hs h,y.length=4:=λy hy=>by
 unfold jn at hy;split at hy
 ·exact h1 y hy
 ·rcases SS.1 hy with h'|h'
  ·exact h1 y h'
  ·rw[S5.1 h'];exact h2
theorem MN{x:ak}{deep:Int}{Q:Kn}{t:List Int}(hx:x.Ok)(ht:jc x t)(hQ:bH Q):bH (ej x deep Q t):=by
 have hB:=NZ hQ ht.len;unfold ej;dsimp only;generalize ju Q t=R at hB;split
 ·obtain⟨h1,h2⟩:=aa7 ht hB.lw (SQ _);exact⟨hB.aA,hB.hours,hB.less,h1.trans hB.aS,hB.first,hB.lV,hB.mf,hB.mu,h2,hB.h4⟩
 ·split
  ·exact⟨hB.aA,hB.hours,hB.less,hB.aS,hB.first,hB.lV,hB.mf,hB.mu,hB.lw,abc hB.h4 (by simp[ht.len])⟩
  ·obtain⟨h1,h2⟩:=aaL ht hB.lV (SQ _);obtain⟨h3,h4⟩:=Rl ht.len hB.mf (s:=x.pieces.length);obtain⟨h5,h6⟩:=Sy (t:=t) hx.cZ hB.mu (p:=x.pieces.length);exact⟨h1.trans hB.aA,h3.trans hB.hours,h5.trans hB.less,hB.aS,hB.first,h2,h4,h6,hB.lw,hB.h4⟩
theorem MU{x:ak}{deep:Int}{h t:List Int}(ht:t∈iX x deep h):∃ns∈fJ x h,t∈(gS x h ns).map (dp h ns):=by
 have key:t∈((fJ x h).map λns=>(gS x h ns).map λos=>dp h ns os).flatten:=by
  unfold iX at ht;dsimp only at ht;split at ht
  ·exact Ws ht
  ·split at ht
   ·obtain⟨l,h1,h2⟩:=XM.1 ht;obtain⟨m,h3,rfl⟩:=Tm.1 h1;exact XM.2 ⟨m,h3,Ws h2⟩
   ·exact ht
 obtain⟨l,h1,h2⟩:=XM.1 key;obtain⟨ns,h3,rfl⟩:=Tm.1 h1;exact⟨ns,h3,h2⟩
theorem Co:bH Kn.zero:=by
 have h0:∀k:Nat,∀n∈TM k 0,n<65536:=λk n h=>by rw[(Xy.1 h).2];decide
 exact⟨rfl,rfl,rfl,rfl,rfl,h0 4,h0 4,h0 4,h0 3,λh hh=>by cases hh⟩
theorem IS{x:ak}{deep:Int}(hx:x.Ok):∀{ts:List (List Int)}{Q:Kn},(∀t∈ts,jc x t)->bH Q->bH (ts.foldl (ej x deep) Q)
 |[],Q,_,h=>h
 |t::ts,Q,ht,h=>by rw[UW];exact IS hx (λu hu=>ht u (by simp[hu])) (MN hx (ht t (by simp)) h)
end Tk
theorem xq{K:Kn}{mp m:Nat}(h:mp<m):∀a∈K.l mp,Lt m a:=λa ha=>by
 simp only[Kn.l,SL,SS,Tm]at ha;rcases ha with rfl|rfl|⟨_,_,rfl⟩|⟨_,_,rfl⟩|⟨_,_,rfl⟩|⟨_,_,rfl⟩|⟨_,_,rfl⟩
 ·exact .val _
 ·exact .mp h
 all_goals exact .val _
theorem FI{K:Kn}{mp m:Nat}(h:∀a∈K.l mp,Lt m a):mp<m:=by
 cases h (.mp mp) (by simp[Kn.l]);assumption
def cs:T9->T9
 |.seq _ c=>c
 |_=> .skip
def cf:T9->T9
 |.seq c _=>c
 |_=> .skip
noncomputable def Si:T9:=asg.body.getD .skip
def uh (x:ak)(bc:Nat)(deep:Int)(c:Nat)(w:SO):List (Nat×AV):=[(12,.fn (.func 86) [] [.op 2 0,.op 3 0]),(5,.op 1 0),(0,.val w),(1,.rp x.l),(2,.rp [iv bc]),(3,.rp [iv deep]),(4,.rp [.val (.chan (some c))])]
def vI (x:ak)(bc:Nat)(K:Kn):List aa:=[setH K.aK,.cells (K.l 0) 88,.cells x.l 76,.cells [iv bc] 3]
theorem alf{lv:Bool}{x:ak}{bc c:Nat}{w:SO}{deep:Int}{bs:List UV}(hx:x.Ok)(lh:bc<=3)(hA:∀h∈j3 x bc,l7 h/\∀ns∈fJ x h,∀a∈(gS x h ns).map (dp h ns),jc x a)(Φ:am->AS->List Nat->Prop)(hΦ:Φ .normal ⟨uh x bc deep c w,vI x bc (gq x deep bc)++[.obj (.deferred (some [])),.gone]⟩ [4]):
  jT lv SC 25 bs (cs (cf (cs (cs Si)))) ⟨uh x bc deep c w,vI x bc Kn.zero⟩ [] Φ:=by
 unfold Si asg;dsimp only[S8,cs,cf];refine ww ?_;refine HK (by rfl) λl fn T ag bo hT wR pn=> ?_;(try simp only[seval,vI]);simp only[uh,iv]at hT;have bP:x.l=[iv x.first,iv x.hours,iv x.an,dS x.seen,aZ x.pieces,aZ x.aB]:=rfl;obtain⟨Gf,tE⟩:∃Gf:Kn->List aa,∀K,Gf K=[setH K.aK,.cells (K.l 0) 88,.cells x.l 76,.cells [iv bc] 3,.obj (.deferred (some [])),.loop l .ready none fn T 25 #[13] ag bo 4]:=⟨_,λ_=>rfl⟩;have yF:∀K,(Gf K).length=6:=λK=>by rw[tE];rfl
 have aiX:∀m K K',(∀z∈Gf K,eR m z)->∀z∈Gf K',eR m z:=λm K K' hz z eO=>by
  rw[tE]at hz eO;have h1:=hz (.cells (K.l 0) 88) (by simp);simp only[SL,S0,or_false]at eO;rcases eO with rfl|rfl|rfl|rfl|rfl|rfl
  ·trivial
  ·exact xq (FI h1)
  ·exact hz _ (by simp)
  ·exact hz _ (by simp)
  ·exact hz _ (by simp)
  ·exact hz _ (by simp)
 have hY:jr lv SC (.fn (.yield l) [] []) (λK h=> .go ((iX x deep h).foldl (ej x deep) K)) Gf 6 bH (λh=>l7 h/\∀ns∈fJ x h,∀a∈(gS x h ns).map (dp h ns),jc x a) (.aJ []):=by
  refine⟨λK h M k kp hK ha dw=> ?_,λK h K' hK ha he=> ?_,yF,aiX,rfl,rfl,rfl⟩
  ·obtain⟨oC,Cb⟩:=ha;have h4:=oC.len;have mQ:(h.map iv).length=4:=(by rw[Tn,h4]);obtain⟨Lo,kA⟩:∃Lo,Lo=aa.loop l .busy none fn T 25 #[13] ag bo 4:=⟨_,rfl⟩;obtain⟨P1,dh⟩:∃P1:Kn->List aa,∀K,P1 K=[setH K.aK,.cells (K.l 0) 88,.cells x.l 76,.cells [iv bc] 3,.obj (.deferred (some [])),Lo]++M:=⟨_,λ_=>rfl⟩;have d_:∀K,(P1 K).length=6+M.length:=λK=>(by rw[dh];simp;omega);have pg:∀(K:Kn)(L:List aa)(i:Nat),i<6->(P1 K++L)[i]?=[setH K.aK,aa.cells (K.l 0) 88,.cells x.l 76,.cells [iv bc] 3,.obj (.deferred (some [])),Lo][i]?:=λK L i JO=>by
    rw[dh,SD,SZ (by simpa using JO)]
   have pb:∀(K:Kn)(L:List aa)(i:Nat),(P1 K++L)[6+M.length+i]?=L[i]?:=λK L i=>(by rw[<- d_ K,a_]);have vS:∀(K:Kn)(L:List aa),(P1 K++L)[6+M.length]?=L[0]?:=λK L=>pb K L 0;have oU:∀(K:Kn)(L:List aa)(y:aa),(P1 K++L).set (6+M.length+4) y=P1 K++L.set 4 y:=λK L y=>(by rw[<- d_ K,dX]);have s5:∀(K:Kn)(L:List aa) y,(P1 K++L).set 5 y=[setH K.aK,.cells (K.l 0) 88,.cells x.l 76,.cells [iv bc] 3,.obj (.deferred (some [])),y]++M++L:=λK L y=>(by rw[dh];rfl);have zA:∀(K K':Kn)(L L':List aa),L'.length=L.length->(∀q,(∀z∈L,eR q z)->∀z∈L',eR q z)->bM (P1 K++L)->bM (P1 K'++L'):=λK K' L L' hl hL hH z hz=>by
    have hlen:(P1 K'++L').length=(P1 K++L).length:=(by simp[d_,hl]);rw[hlen];rcases SS.1 hz with h'|h'
    ·rw[dh]at h';rcases SS.1 h' with h'|h'
     ·have h1:=hH (.cells (K.l 0) 88) (by rw[dh];simp);have hq:∀w∈[setH K.aK,aa.cells (K.l 0) 88,.cells x.l 76,.cells [iv bc] 3,.obj (.deferred (some [])),Lo],eR (P1 K++L).length w:=λw hw=>hH w (by rw[dh,SD];exact Te _ hw);simp only[SL,S0,or_false]at h';rcases h' with rfl|rfl|rfl|rfl|rfl|rfl
      ·trivial
      ·exact xq (FI h1)
      ·exact hq _ (by simp)
      ·exact hq _ (by simp)
      ·exact hq _ (by simp)
      ·exact hq _ (by simp)
     ·exact hH z (by rw[dh];simp[h'])
    ·exact hL _ (λw hw=>hH w (S4 _ hw)) z h'
   simp only[cP]at dw;rw[tE]at dw;rw[tE];subst hT wR pn;refine uV (id:=5) (by rfl) rfl (by kernel_rfl) λnF I2=> ?_;simp only[rz];have vq:Ur 4 [iv 0,iv 0,iv 0,iv 0]=[]:=rfl;refine aj ?_;simp only[seval,uh,h4,vq];unfold sZ;refine⟨none,fn,_,25,#[13],_,_,_,by rfl,?_⟩;dsimp only;simp only[UB,TZ];rw[<- kA];have wN:M.length+1+1+1+1+1+1=6+M.length:=(by omega);rw[wN];have w5:∀z:aa,(setH K.aK::aa.cells (K.l 0) 88::aa.cells x.l 76::aa.cells [AV.val (SG SF ↑bc)] 3::aa.obj (atm (some []))::Lo::(M++[z]))=P1 K++[z]:=λz=>(by rw[dh];rfl);rw[w5];refine aj ?_;simp only[seval,bP,vS,h4,mQ];rw[SX (i:=4) (l:=h.map iv) (by rw[mQ];exact SQ _)];refine aM ((IB (x:=x) (h:=h) (deep:=deep) ?_));(try simp only[seval]);refine cF ?_;have pu:∀(K:Kn)(a b c d:aa),(P1 K++[a,b,c,d]).length=6+M.length+4:=λK a b c d=>(by simp[d_]);refine DJ 5 (by rfl) (by show (P1 K++_)[5]?=_;rw[pg K _ 5 (by omega),kA];rfl) λl2 eA T2 gf gg nH wS wU=> ?_;simp only[seval];rw[d_]at nH⊢;have wQ:jr lv SC (.fn (.yield l2) [] []) (λK t=> .go (ej x deep K t)) (λK=>P1 K++[.cells (h.map iv) 83,.cells x.l 76,.cells (h.map iv) 83,.cells [iv deep] 3,.loop l2 .ready none eA T2 25 #[18] gf gg 4]) (6+M.length+5) bH (jc x) (.aJ []):=by
    refine⟨λK' t M2 k2 xr I8 ht kF=> ?_,λK' t An I8 ht he=> ?_,λK'=>by simp[d_],λq K' An hz z eO=> ?_,rfl,rfl,rfl⟩
    ·have pF:=ht.len;have zm:(t.map iv).length=11:=(by rw[Tn,pF]);obtain⟨oZ,rZ⟩:∃Lo,Lo=aa.loop l2 .busy none eA T2 25 #[18] gf gg 4:=⟨_,rfl⟩;obtain⟨Q1,fP⟩:∃Q1:Kn->List aa,∀K,Q1 K=P1 K++([.cells (h.map iv) 83,.cells x.l 76,.cells (h.map iv) 83,.cells [iv deep] 3,oZ]++M2):=⟨_,λ_=>rfl⟩;obtain⟨C,hC⟩:∃C,C=6+M.length+5+M2.length:=⟨_,rfl⟩;have Jc:∀K,(Q1 K).length=C:=λK=>(by rw[fP,hC];simp[d_];omega);have ly:∀(K:Kn)(L:List aa),(P1 K++L)[6+M.length+4]?=L[4]?:=λK L=>pb K L 4;have q0:∀(K:Kn)(L:List aa),(Q1 K++L)[0]?=some (setH K.aK):=λK L=>(by rw[fP,SD];exact pg K _ 0 (by omega));have q1:∀(K:Kn)(L:List aa),(Q1 K++L)[1]?=some (.cells (K.l 0) 88):=λK L=>(by rw[fP,SD];exact pg K _ 1 (by omega));have q4:∀(K:Kn)(L:List aa),(Q1 K++L)[6+M.length+4]?=some oZ:=λK L=>(by rw[fP,SD,ly];rfl);have qc:∀(K:Kn)(L:List aa),(Q1 K++L)[C]?=L[0]?:=λK L=>(by rw[<- Jc K];exact a_ _ L 0);have Mn:∀(K:Kn)(L:List aa)(y:aa),(Q1 K++L).set (6+M.length+4) y=(P1 K++([.cells (h.map iv) 83,.cells x.l 76,.cells (h.map iv) 83,.cells [iv deep] 3,y]++M2))++L:=λK L y=>(by rw[fP,SD,oU];simp);have aox:∀(K K':Kn)(L:List aa),((Q1 K++L).set 1 (.cells (K'.l 0) 88)).set 0 (setH K'.aK)=Q1 K'++L:=λK K' L=>(by rw[fP,fP,dh,dh];rfl);have eU:∀(An:Kn),bM (P1 K'++([.cells (h.map iv) 83,.cells x.l 76,.cells (h.map iv) 83,.cells [iv deep] 3,.loop l2 .ready none eA T2 25 #[18] gf gg 4]++M2))->bM (P1 An++([.cells (h.map iv) 83,.cells x.l 76,.cells (h.map iv) 83,.cells [iv deep] 3,.loop l2 .ready none eA T2 25 #[18] gf gg 4]++M2)):=λAn gM=>zA K' An _ _ rfl (λq hz=>hz) gM;simp only[cP]at kF;have JB:∀z:aa,P1 K'++(aa.cells (UY iv h) 83::aa.cells x.l 76::aa.cells (UY iv h) 83::aa.cells [AV.val (SG SF deep)] 3::oZ::(M2++[z]))=Q1 K'++[z]:=λz=>(by rw[fP];simp[iv]);subst nH wS wU;rw[SD];refine uV (id:=6+M.length+4) (by rw[ly];rfl) rfl (by kernel_rfl) λqw I3=> ?_;simp only[rz];have BC:Ur 11 [iv 0,iv 0,iv 0,iv 0,iv 0,iv 0,iv 0,iv 0,iv 0,iv 0,iv 0]=[]:=rfl;refine aj ?_;simp only[seval,pF,BC];unfold sZ;refine⟨none,eA,_,25,#[18],_,_,_,by rw[ly];rfl,?_⟩;dsimp only;rw[oU];simp only[UB,TZ];rw[<- rZ];have Be:(P1 K').length+(M2.length+1+1+1+1+1)=C:=(by rw[d_,hC];omega);rw[Be];have io:∀z:aa,(P1 K'++aa.cells (UY iv h) 83::aa.cells x.l 76::aa.cells (UY iv h) 83::aa.cells [AV.val (SG SF deep)] 3::oZ::(M2++[z]))=Q1 K'++[z]:=JB;rw[io];refine aj ?_;simp only[seval,bP,qc,pF,zm];rw[SX (i:=11) (l:=t.map iv) (by rw[zm];exact SQ _)];refine aM ((ahV (x:=x) (t:=t) (deep:=deep) (fp:=1) (mp:=0) (Q:=K') hx ht I8 (by decide) (q1 K' _) (q0 K' _) ?_));rw[aox];(try simp only[seval]);show og _ _ _ _ _ _ _;refine⟨l2,.busy,none,eA,_,25,#[18],_,_,4,by show (Q1 _++_)[_]?=_;rw[q4,rZ],?_⟩;show cy C ((Q1 _++_).set _ _) _ k2;rw[Mn];rw[SD]at kF;exact jy (G:=[.cells (t.map iv) 86]) (Wk.refl _) rfl (by rw[hC];simp[d_];omega) (eU _ qw) (.val _) kF
    ·cases he;exact MN hx ht I8
    ·rcases SS.1 eO with h'|h'
     ·have h1:=hz (.cells (K'.l 0) 88) (by rw[dh];simp);rw[dh]at h';rcases SS.1 h' with h'|h'
      ·simp only[SL,S0,or_false]at h';rcases h' with rfl|rfl|rfl|rfl|rfl|rfl
       ·trivial
       ·exact xq (FI h1)
       all_goals exact hz _ (by rw[dh];simp)
      ·exact hz z (by rw[dh];simp[h'])
     ·exact hz z (S4 _ h')
   refine dC (IF (x:=x) (h:=h) (deep:=deep) (ir:=6+M.length+1) (ih:=6+M.length+1+1) (id:=6+M.length+1+2) (σ:=K) hx oC wQ (λK L=> ?_) (λK L=> ?_) (λK L=> ?_) (λn=>by simp[jm]) hK (λa ha=>ha.len) Cb ?_)
   ·rw[SD];exact pb _ _ 1
   ·rw[SD];exact pb _ _ 2
   ·rw[SD];exact pb _ _ 3
   rw[CJ (g:=ej x deep) (λ_ _=>rfl)];simp only[fL,SY];have ly:∀(K:Kn)(L:List aa),(P1 K++L)[6+M.length+4]?=L[4]?:=λK L=>pb K L 4;refine⟨.ready,none,_,_,_,_,_,_,_,by rw[ly];rfl,by decide,?_⟩;rw[oU,Gk];(try simp only[seval]);show og _ _ _ _ _ _ _;have asx:=kA;refine⟨l,.busy,none,fn,_,25,#[13],_,_,4,by show (P1 _++_)[_]?=_;rw[pg _ _ 5 (by omega),kA];rfl,?_⟩;show cy (6+M.length) ((P1 _++_).set _ _) _ k;rw[s5];refine jy (G:=[.cells (h.map iv) 83,.cells x.l 76,.cells (h.map iv) 83,.cells [iv deep] 3,.gone]) (Wk.refl _) rfl (by simp;omega) ?_ (.val _) dw;intro z hz;have h1:=nF (.cells (K.l 0) 88) (by simp);have hlen:∀(y:aa),([setH (ab' (ej x deep) K (iX x deep h)).aK,aa.cells ((ab' (ej x deep) K (iX x deep h)).l 0) 88,.cells x.l 76,.cells [iv bc] 3,.obj (.deferred (some [])),y]++M).length=(setH K.aK::aa.cells (K.l 0) 88::aa.cells x.l 76:: .cells [iv bc] 3:: .obj (.deferred (some []))::y::M).length:=λy=>rfl;rcases SS.1 hz with h'|h'
   ·simp only[SL,S0,or_false]at h';rcases h' with rfl|rfl|rfl|rfl|rfl|rfl
    ·trivial
    ·exact xq (FI h1)
    all_goals exact nF _ (by simp)
   ·exact nF z (by simp[h'])
  ·cases he;exact IS hx (λt ht=>by obtain⟨ns,h1,h2⟩:=MU ht;exact ha.2 ns h1 t h2) hK
 have hgo:bz (λK h=>dt.go ((iX x deep h).foldl (ej x deep) K)) (j3 x bc) Kn.zero=.go (gq x deep bc):=by
  rw[CJ (g:=λK h=>(iX x deep h).foldl (ej x deep) K) (λ_ _=>rfl),gq,List.foldl_flatMap]
 refine DT (by kernel_rfl) ?_;have e0:=tE Kn.zero;simp only[iv]at e0;rw[<- e0];refine ID (lv:=lv) (x:=x) (bc:=bc) (N:=6) (ir:=2) (it:=3) (σ:=Kn.zero) hx hY (λK L=>by rw[tE];rfl) (λK L=>by rw[tE];rfl) lh (λn=>by simp[jm]) Co hA ?_;rw[hgo];simp only[fL,SY];refine⟨.ready,none,_,_,_,_,_,_,_,by rw[tE];rfl,by decide,?_⟩;rw[tE,Gj];exact hΦ
open Go.Conc
inductive Ht where
 |z
 |s (f:Tp->Ht)
inductive Al:Ht->Ht->Prop where
 |mk (f:Tp->Ht) (w:Tp):Al (f w) (.s f)
theorem akQ:WellFounded Al:=by
 refine⟨λh=> ?_⟩;induction h with
 |z=>exact⟨_,λy hy=>by cases hy⟩
 |s f ih=>exact⟨_,λy hy=>by cases hy with|mk _ w=>exact ih w⟩
inductive kR (P:SJ):Ht->View->SH->Prop where
 |step {f:Tp->Ht} {V V₁:View} {g:SH} (G':Tp->SH) (W':Tp->Tp) (E':Tp->Array Uq) (V':Tp->View) (hs:g.status=.running) (hg:dP V V₁)
   (h1:∀w,Sat V₁ w->stepG P false g w=.go (G' w) (W' w) (E' w)) (h2:∀w,Sat V₁ w->cV V₁ w (V' w) (W' w) (E' w)) (h3:∀w,Sat V₁ w->kR P (f w) (V' w) (G' w)):kR P (.s f) V g
 |send {h:Ht} {V V₁:View} {g:SH} (c Wg:Nat) (sp:Spec) (S:List Spec) (v z:SO) (B:Nat->Bool) (hs:g.status=.running) (hg:dP V V₁) (hr:V₁.role=.work c Wg (sp::S)) (hd:V₁.deaf=0) (ho:g.offers=none)
   (h1:∀w,Sat V₁ w->stepG P false g w=.comm g #[scase c v z] true .send w #[]) (h2:sp v V₁.ab (λb=>if B b then V₁.own b else none))
   (h3:kR P h {V₁ with own:=λb=>if B b then none else V₁.own b,role:=.work c Wg S} (T4 g undef)):kR P (.s λ_=>h) V g
 |done {V V₁:View} {g:SH} (c Wg:Nat) (hg:dP V V₁) (hr:V₁.role=.work c Wg []) (hd:V₁.deaf=0) (h1:Dl P Wg g):kR P (.s λ_=> .z) V g
 |slip {h:Ht} {V V₁:View} {g g':SH} (c Wg:Nat) (hs:g.status=.running) (hg:dP V V₁) (hr:V₁.role=.work c Wg []) (h1:∀w st,Sat V₁ w->WgAt P Wg w st 0->stepG P false g w=.go g' w #[]) (h3:kR P h V₁ g'):kR P (.s λ_=>h) V g
theorem kR.running{P:SJ}{h:Ht}{V:View}{g:SH}(k:kR P h V g):g.status=.running:=by
 cases k with
 |step _ _ _ _ hs=>exact hs
 |send _ _ _ _ _ _ _ hs=>exact hs
 |done _ _ _ _ _ h1=>exact h1.1
 |slip _ _ hs=>exact hs
open Classical in
theorem arn(P:SJ):xR P false (λV g=>∃h,kR P h V g)where
 step V g hs h:=by
  have hc:∀w,∃h' g' w' es V',Sat V w->stepG P false g w=.go g' w' es/\cV V w V' w' es/\kR P h' V' g':=by
   intro w;by_cases hw:Sat V w
   ·obtain⟨g',w',es,V',h1,h2,h',h3⟩:=h w hw;exact⟨h',g',w',es,V',λ_=>⟨h1,h2,h3⟩⟩
   ·exact⟨.z,g,w,#[],V,λx=>absurd x hw⟩
  have oy:=λw=>(hc w).choose_spec.choose_spec.choose_spec.choose_spec.choose_spec;exact⟨.s λw=>(hc w).choose,.step (λw=>(hc w).choose_spec.choose) (λw=>(hc w).choose_spec.choose_spec.choose) (λw=>(hc w).choose_spec.choose_spec.choose_spec.choose)
   (λw=>(hc w).choose_spec.choose_spec.choose_spec.choose_spec.choose) hs (dP.refl V) (λw hw=>(oy w hw).1) (λw hw=>(oy w hw).2.1) (λw hw=>(oy w hw).2.2)⟩
 ghost V V' g hg h:=by
  obtain⟨h,hk⟩:=h;cases hk with
  |step a b c d e f x y z=>exact⟨_,.step a b c d e (hg.trans f) x y z⟩
  |send a b c d e f m n o p q r s t u=>exact⟨_,.send a b c d e f m n (hg.trans o) p q r s t u⟩
  |done a b o p q r=>exact⟨_,.done a b (hg.trans o) p q r⟩
  |slip a b f o p q r=>exact⟨_,.slip a b f (hg.trans o) p q r⟩
 send V g c Wg sp S v z B h1 h2 h3 h4 h5 h6 h7:=by
  obtain⟨h,hk⟩:=h7;exact⟨_,.send c Wg sp S v z B h3 (dP.refl V) h1 h2 h4 h5 h6 hk⟩
 done V g c Wg h1 h2 h3:=⟨_,.done c Wg (dP.refl V) h1 h2 h3⟩
 slip V g g' c Wg h1 h2 h3 h4:=by
  obtain⟨h,hk⟩:=h4;exact⟨_,.slip c Wg h2 (dP.refl V) h1 h3 hk⟩
structure x9 where
 a:Nat
 h:Ht
 n:Nat
def qb:x9->x9->Prop:=λx y=>x.a<y.a\/(x.a=y.a/\(Al x.h y.h\/(x.h=y.h/\x.n<y.n)))
theorem aoC:WellFounded qb:=by
 refine⟨λ⟨a,h,n⟩=> ?_⟩;induction a using Yo generalizing h n with
 |_ a iha=>
  induction h using akQ.induction generalizing n with
  |_ h ihh=>
   induction n using Yo with
   |_ n KZ=>
    refine⟨_,λ⟨a',h',n'⟩ hlt=> ?_⟩;rcases hlt with x|⟨rfl,x|⟨rfl,x⟩⟩
    ·exact iha a' x h' n'
    ·exact ihh h' x n'
    ·exact KZ n' x
def Ax (N:Nat)(f' f:Nat->x9):Prop:=∃i,i<N/\qb (f' i) (f i)/\∀j,j≠i->f' j=f j
theorem apG(N:Nat):WellFounded (Ax N):=by
 refine⟨?_⟩;induction N with
 |zero=>intro f;exact⟨_,λf' ⟨i,hi,_⟩=>by omega⟩
 |succ N ih=>
  have key:∀x:x9,∀f,f N=x->Acc (Ax (N+1)) f:=by
   intro x;induction x using aoC.induction with
   |_ x ihx=>
    intro f hf;have inner:∀f,Acc (Ax N) f->f N=x->Acc (Ax (N+1)) f:=by
     intro f ha;induction ha with
     |intro f _ KY=>
      intro hf;refine⟨_,λf' ⟨i,hi,hlt,ho⟩=> ?_⟩;by_cases fe:i=N
      ·subst fe;exact ihx (f' i) (hf▸hlt) f' rfl
      ·exact KY f' ⟨i,by omega,hlt,ho⟩ ((ho N (Ne.symm fe)).trans hf)
    exact inner f (ih f) hf
  exactλf=>key (f N) f rfl
def As (N:Nat)(x y:(Nat->x9)×Nat):Prop:=Ax N x.1 y.1\/(x.1=y.1/\x.2<y.2)
theorem aaw(N:Nat):WellFounded (As N):=by
 refine⟨λ⟨f,n⟩=> ?_⟩;induction f using(apG N).induction generalizing n with
 |_ f KY=>
  induction n using Yo with
  |_ n KZ=>
   refine⟨_,λ⟨f',n'⟩ hlt=> ?_⟩;rcases hlt with x|⟨x,y⟩
   ·exact KY f' x n'
   ·have x':f'=f:=x;subst x';exact KZ n' y
open Go.ConcN
structure TI (t:Uk)(B N:Nat)(rd wr:Nat->Loc->Prop)(Sh:Loc->Prop)(act:Nat->Prop)(ic:Nat):Prop where
 nr:∀said,¬Race said t
 low:∀op∈t,op.act.low B
 gs:∀op∈t,op.g<N
 norel:∀op∈t,∀a,op.act≠ .mark (.release a)
 kr:∀i,i<N->∀l,rd i l->PermW t i l
 kw:∀i,i<N->∀l,wr i l->Perm t i l
 sp:∀idx a,touchAt t idx=some a->Sh a.loc->(a.kind=.plain->∀i,act i->Wm t i idx)/\(a.kind=.said->Wm t ic idx)
def Fit (B:Nat)(rd wr:Nat->Loc->Prop)(Sh:Loc->Prop)(act:Nat->Prop)(ic i:Nat)(x:YM):Prop:=
 (Sh x.loc/\x.kind=.atomic/\act i)\/(Sh x.loc/\x.kind=.said/\i=ic/\act i)\/(¬Sh x.loc/\(wr i x.loc\/(rd i x.loc/\x.write=false)\/¬x.loc.low B))
theorem amj{B:Nat}{m:MemAct}(h:m.low B){x:YM}(hx:m.touch?=some x):x.loc.low B:=by
 cases m with
 |access e=>simp only[Wd,Tl]at hx;subst hx;exact h
 |mark m=>cases m<;>simp[Wd]at hx<;>(subst hx;exact h)
 |_=>simp[Wd]at hx
theorem MT{t:Uk}{B:Nat}(h:∀op∈t,op.act.low B){idx:Nat}{a:YM}(ha:touchAt t idx=some a):a.loc.low B:=by
 obtain⟨x,hx,Fw⟩:=US ha;exact amj (h x (XT hx)) Fw
theorem z_{t u:Uk}{idx:Nat}{a:YM}(h:touchAt (t++u) idx=some a):touchAt t idx=some a\/(t.size<=idx/\∃op∈u,(t++u)[idx]?=some op/\op.act.touch?=some a):=by
 obtain⟨x,hx,Fw⟩:=US h;rcases Xm hx with⟨_,jl⟩|⟨hi,hu⟩
 ·exact .inl (by rw[touchAt_of jl];exact Fw)
 ·exact .inr ⟨hi,x,hu,hx,Fw⟩
theorem TI.app{t:Uk}{B N B':Nat}{rd wr rd' wr':Nat->Loc->Prop}{Sh:Loc->Prop}{act:Nat->Prop}{ic:Nat}(h:TI t B N rd wr Sh act ic){u:Uk}{i:Nat}(hi:i<N)(hu:∀op∈u,op.g=i)
  (hf:∀op∈u,∀x,op.act.touch?=some x->Fit B rd wr Sh act ic i x) (hl:∀op∈u,op.act.low B') (hB:B<=B') (hn:∀op∈u,∀a,op.act≠ .mark (.release a))
  (Ku:∀j l,j≠i->rd' j l->rd j l) (qT:∀j l,j≠i->wr' j l->wr j l) (hri:∀l,rd' i l->l.low B->rd i l\/wr i l) (xn:∀l,wr' i l->l.low B->wr i l)
  (ex:∀l j,j≠i->(wr i l->¬rd j l/\¬wr j l)/\(rd i l->¬wr j l)) (GA:∀l j,Sh l->¬rd j l/\¬wr j l) (aah:∀j l,rd j l\/wr j l->l.low B):
  TI (t++u) B' N rd' wr' Sh act ic where
 nr said:=by
  refine noRace_append (h.nr said) hu λidx a ha op au b hb hc=> ?_;have bf:=hc;obtain⟨cG,_,JY,pu⟩:=hc;rcases hf op au b hb with⟨h1,h2,h3⟩|⟨h1,h2,h3,h4⟩|⟨_,h2|⟨h2,h3⟩|h2⟩
  ·rw[h2]at pu;rcases pu with x|x|⟨_,_,x⟩
   ·exact(h.sp idx a ha (cG▸h1)).1 x i h3
   ·cases x
   ·cases x
  ·rw[h2]at pu;rcases pu with x|x|⟨_,x,_⟩
   ·exact(h.sp idx a ha (cG▸h1)).1 x i h4
   ·cases x
   ·rw[h3];exact(h.sp idx a ha (cG▸h1)).2 x
  ·exact h.kw i hi _ h2 idx a ha cG
  ·exact h.kr i hi _ h2 idx a ha cG (by rw[h3]at JY;simpa using JY)
  ·exact absurd (cG▸MT h.low ha) h2
 low op au:=(Ut.1 au).elim (λx=>Zl hB (h.low op x)) (hl op)
 gs op au:=(Ut.1 au).elim (h.gs op) (λx=>by rw[hu op x];exact hi)
 norel op au:=(Ut.1 au).elim (h.norel op) (hn op)
 kr j hj l tY:=by
  by_cases ce:j=i
  ·subst ce;intro idx a ha gk hw;rcases z_ ha with fQ|⟨_,op,au,cR,hx⟩
   ·have gN:l.low B:=gk▸MT h.low fQ;rcases hri l tY gN with x|x
    ·exact(h.kr j hj l x idx a fQ gk hw).app u
    ·exact(h.kw j hj l x idx a fQ gk).app u
   ·have:=Ze cR;rwa [hu op au]at this
  ·have B6:=Ku j l ce tY;refine(h.kr j hj l B6).app λop au b hb cJ hw=> ?_;exfalso;rcases hf op au b hb with⟨h1,_⟩|⟨h1,_⟩|⟨_,h2|⟨_,h3⟩|h2⟩
   ·exact(GA l j (cJ▸h1)).1 B6
   ·exact(GA l j (cJ▸h1)).1 B6
   ·exact((ex l j ce).1 (cJ▸h2)).1 B6
   ·rw[h3]at hw;cases hw
   ·exact h2 (cJ▸aah j l (.inl B6))
 kw j hj l qS:=by
  by_cases ce:j=i
  ·subst ce;intro idx a ha gk;rcases z_ ha with fQ|⟨_,op,au,cR,hx⟩
   ·exact(h.kw j hj l (xn l qS (gk▸MT h.low fQ)) idx a fQ gk).app u
   ·have:=Ze cR;rwa [hu op au]at this
  ·have oM:=qT j l ce qS;refine(h.kw j hj l oM).app λop au b hb cJ=> ?_;exfalso;rcases hf op au b hb with⟨h1,_⟩|⟨h1,_⟩|⟨_,h2|⟨h2,_⟩|h2⟩
   ·exact(GA l j (cJ▸h1)).2 oM
   ·exact(GA l j (cJ▸h1)).2 oM
   ·exact((ex l j ce).1 (cJ▸h2)).2 oM
   ·exact(ex l j ce).2 (cJ▸h2) oM
   ·exact h2 (cJ▸aah j l (.inr oM))
 sp idx a ha dK:=by
  rcases z_ ha with fQ|⟨_,op,au,cR,hx⟩
  ·exact⟨λhp j hj=>((h.sp idx a fQ dK).1 hp j hj).app u,λhp=>((h.sp idx a fQ dK).2 hp).app u⟩
  ·rcases hf op au a hx with⟨_,h2,_⟩|⟨_,h2,h3,_⟩|⟨h1,_⟩
   ·exact⟨λhp=>absurd (h2.symm.trans hp) (by simp),λhp=>absurd (h2.symm.trans hp) (by simp)⟩
   ·refine⟨λhp=>absurd (h2.symm.trans hp) (by simp),λ_=> ?_⟩;have:=Ze cR;rw[hu op au,h3]at this;exact this
   ·exact absurd dK h1
theorem TI.weaken{t:Uk}{B N B':Nat}{rd wr rd' wr':Nat->Loc->Prop}{Sh Nr:Loc->Prop}{act act':Nat->Prop}{ic j6:Nat}(h:TI t B N rd wr Sh act ic)(hB:B<=B')
  (Ku:∀i l,i<N->rd' i l->rd i l\/wr i l) (qT:∀i l,i<N->wr' i l->wr i l)
  (xg:∀idx a,touchAt t idx=some a->Nr a.loc->(a.kind=.plain->∀i,act' i->Wm t i idx)/\(a.kind=.said->Wm t j6 idx)):TI t B' N rd' wr' Nr act' j6:=
 ⟨h.nr,λop au=>Zl hB (h.low op au),h.gs,h.norel,λi hi l x=>(Ku i l hi x).elim (h.kr i hi l) (λy=>PermW.of (h.kw i hi l y)),λi hi l x=>h.kw i hi l (qT i l hi x),xg⟩
theorem amO{t u:Uk}(h:∀said,¬Race said t)(hn:∀op∈u,op.act.touch?=none):∀said,¬Race said (t++u):=by
 intro said
 rintro⟨i,j,jP,⟨a,b,ha,hb,hc⟩,n1,n2⟩
 have old:∀{k:Nat}{x:YM},((t++u).act? k).bind (·.touch?)=some x->k<t.size/\(t.act? k).bind (·.touch?)=some x:=by
  intro k x hx;obtain⟨y,hy,KS⟩:=US hx;rcases Xm hy with⟨hk,oN⟩|⟨_,hyu⟩
  ·exact⟨hk,by simp[Trace.act?,oN,KS]⟩
  ·rw[hn y hyu]at KS;cases KS
 exact h said ⟨i,j,jP,⟨a,b,(old ha).2,(old hb).2,hc⟩,λe=>n1 (hb_app u e),λe=>n2 (hb_app u e)⟩
theorem Aa{t u:Uk}(hn:∀op∈u,op.act.touch?=none){idx:Nat}{a:YM}(h:touchAt (t++u) idx=some a):touchAt t idx=some a:=by
 rcases z_ h with h|⟨_,op,au,_,hx⟩
 ·exact h
 ·rw[hn op au]at hx;cases hx
theorem TI.mute{t:Uk}{B N N':Nat}{rd wr rd' wr':Nat->Loc->Prop}{Sh:Loc->Prop}{act act':Nat->Prop}{ic j6:Nat}(h:TI t B N rd wr Sh act ic){u:Uk}(hn:∀op∈u,op.act.touch?=none)(hl:∀op∈u,op.act.low B)(hg:∀op∈u,op.g<N')(hN:N<=N')
  (qI:∀op∈u,∀a,op.act≠ .mark (.release a))
  (kr:∀i,i<N'->∀l,rd' i l->∀idx a,touchAt t idx=some a->a.loc=l->a.write=true->Wm (t++u) i idx) (kw:∀i,i<N'->∀l,wr' i l->∀idx a,touchAt t idx=some a->a.loc=l->Wm (t++u) i idx)
  (sp:∀idx a,touchAt t idx=some a->Sh a.loc->(a.kind=.plain->∀i,act' i->Wm (t++u) i idx)/\(a.kind=.said->Wm (t++u) j6 idx)):TI (t++u) B N' rd' wr' Sh act' j6:=
 ⟨amO h.nr hn,λop au=>(Ut.1 au).elim (h.low op) (hl op),λop au=>(Ut.1 au).elim (λx=>Tc (h.gs op x) hN) (hg op),λop au=>(Ut.1 au).elim (h.norel op) (qI op),
  λi hi l x idx a ha=>kr i hi l x idx a (Aa hn ha),λi hi l x idx a ha=>kw i hi l x idx a (Aa hn ha),λidx a ha=>sp idx a (Aa hn ha)⟩
theorem qt{t u:Uk}{k:Nat}{x:Wc}(h:u[k]?=some x):(t++u)[t.size+k]?=some x:=by
 rw[X8 (by omega)];simpa using h
theorem heard_new{t u:Uk}{k g:Nat}{x:Wc}(h:u[k]?=some x)(hx:x.g=g)(hd:(t++u).deaf g (t.size+k)=0):(t++u).heard (t.size+k):=⟨g,by simp[Wz,qt h,hx],hd⟩
def still (m:MemAct):Prop:=m≠ .mark .disable/\m≠ .mark .enable
theorem HZ{g d:Nat}{y:Wc}(h:still y.act):deafStep g d y=d:=by
 unfold deafStep;obtain⟨_,_,_,act⟩:=y;cases act with
 |mark m=>cases m<;>first|rfl|exact absurd rfl h.1|exact absurd rfl h.2
 |_=>rfl
theorem tp{t u:Uk}{g:Nat}(hs:∀op∈u,still op.act):∀{k:Nat},k<=u.size->(t++u).deaf g (t.size+k)=UQ t g:=by
 intro k;induction k with
 |zero=>intro _;exact deaf_old (SQ _)
 |succ k ih=>
  intro hk;have hlt:k<u.size:=by omega
  have hy:u[k]?=some u[k]:=SK hlt;have e:=aa' (g:=g) (qt (t:=t) hy);rw[show t.size+(k+1)=t.size+k+1 from rfl,e,ih (by omega),HZ (hs _ (XV hlt))]
theorem Deaf_still{t u:Uk}{g:Nat}(hs:∀op∈u,still op.act):UQ (t++u) g=UQ t g:=by
 have:=tp (t:=t) (g:=g) hs (SQ u.size);unfold UQ;rw[XE];exact this
theorem amv{t u:Uk}{k c s:Nat}{x0 x1 x2 x3:Wc}(hu:u=#[x0,x1,x2,x3]) (h0:x0.g=k/\x0.act=.send c s) (h1:still x1.act) (h2:still x2.act) (h3:x3.g=0/\x3.act=.recvDone c s) (dk:UQ t k=0) (d0:UQ t 0=0) {idx:Nat} (h:Wm t k idx):Wm (t++u) 0 idx:=by
 have hs:∀op∈u,still op.act:=by
  subst hu;intro op au;simp only[TJ,SL,S0,or_false]at au;rcases au with rfl|rfl|rfl|rfl
  ·rw[h0.2];exact⟨by simp,by simp⟩
  ·exact h1
  ·exact h2
  ·rw[h3.2];exact⟨by simp,by simp⟩
 have e0:u[0]?=some x0:=by subst hu;rfl
 have e3:u[3]?=some x3:=by subst hu;rfl
 have aT:u.size=4:=by subst hu;rfl
 have g0:=qt (t:=t) e0;have g3:=qt (t:=t) e3;have hh0:(t++u).heard (t.size+0):=heard_new e0 h0.1 (by rw[tp hs (by omega)];exact dk);have QE:(t++u).heard (t.size+3):=heard_new e3 h3.1 (by rw[tp hs (by omega)];exact d0);have hb:HappensBefore (t++u) idx (t.size+0):=h.hb_new (by omega) g0 h0.1;exact⟨_,x3,g3,h3.1,.inr (hb.trans (.single (.inr ⟨.handOver (c:=c) (k:=s) (by rw[af' g0,h0.2]) (by rw[af' g3,h3.2]),hh0,QE⟩)))⟩
theorem ad2{t:Uk}{a:U2}{r q i:Nat}{y:Wc}(hr:t.act? r=some (.mark (.releaseMerge a)))(hh:t.heard r)(hn:∀op∈t,∀a,op.act≠ .mark (.release a))(hy:y.g=q/\y.act=.mark (.acquire a))(hd:UQ t q=0)(hb:Before t i r):Wm (t++#[y]) q i:=by
 have e:(#[y]:Uk)[0]?=some y:=rfl;have g:=qt (t:=t) e;have tY:=Wa hr;have aP:∀op∈(#[y]:Uk),still op.act:=by
  intro op au;simp only[TJ,SL,S0,or_false]at au;subst au;rw[hy.2];exact⟨by simp,by simp⟩
 have JN:(t++#[y]).heard (t.size+0):=heard_new e hy.1 (by rw[tp aP (by simp)];exact hd);refine⟨_,y,g,hy.1,.inr ((hb.app #[y]).hb (.single (.inr ⟨.marked (a:=a) (by omega) (.inr (by rw[X7 tY];exact hr)) (by rw[af' g,hy.2]) (λk g_ cz e'=> ?_),(Wq tY).2 hh,JN⟩)))⟩;obtain⟨op,ho,hoa⟩:=Tq.1 e';rcases Xm ho with⟨_,aY⟩|⟨hk,_⟩
 ·exact hn op (XT aY) a hoa
 ·omega
theorem afM{t:Uk}{c p q i:Nat}{y:Wc}(hp:t.act? p=some (.close c))(hh:t.heard p)(hy:y.g=q/\y.act=.recvClosed c)(hd:UQ t q=0)(hb:Before t i p):Wm (t++#[y]) q i:=by
 have e:(#[y]:Uk)[0]?=some y:=rfl;have g:=qt (t:=t) e;have dc:=Wa hp;have aP:∀op∈(#[y]:Uk),still op.act:=by
  intro op au;simp only[TJ,SL,S0,or_false]at au;subst au;rw[hy.2];exact⟨by simp,by simp⟩
 have JN:(t++#[y]).heard (t.size+0):=heard_new e hy.1 (by rw[tp aP (by simp)];exact hd);exact⟨_,y,g,hy.1,.inr ((hb.app #[y]).hb (.single (.inr ⟨.closed (c:=c) (by rw[X7 dc];exact hp) (by rw[af' g,hy.2]),(Wq dc).2 hh,JN⟩)))⟩
def jp (U V:View):Prop:=∀b,U.own b≠none->V.own b=none/\∀o,V.ab b o≠none->U.ab b o≠none
def gw (V:View):Loc->Prop
 |.cell a=>V.own a.block≠none\/V.ab a.block a.off≠none
 |.obj r=>V.own r≠none
 |_=>False
def jq (V:View):Loc->Prop
 |.cell a=>V.own a.block≠none/\V.ab a.block a.off=none
 |.obj r=>V.own r≠none
 |_=>False
theorem jq.rd{V:View}:∀{l:Loc},jq V l->gw V l
 |.cell _,h=> .inl h.1
 |.obj _,h=>h
theorem cV.others{V V' U:View}{w w':Tp}{es:Array Uq}(s:cV V w V' w' es)(hV:Sat V w)(h:Sat U w)(d:jp V U):Sat U w':=by
 refine⟨λb o v e=> ?_,λb x e=> ?_⟩
 ·have hc:=h.ab b o v e;have hb:=h.Ck e;cases ho:V.own b with
  |none=>
   have:=s.frame b hb ho;simp only[Ux,this]at hc⊢;exact hc
  |some x=>
   have hp:=(d b (by rw[ho];simp)).2 o (by rw[e];simp);cases hi:V.ab b o with
   |none=>exact absurd hi hp
   |some v'=>
    have e1:=hV.ab b o v' hi;rw[hc]at e1;cases e1;exact s.sat.ab b o v (s.ab b o v hi)
 ·have hb:=h.lt e;have ho:V.own b=none:=by
   cases ho:V.own b with
   |none=>rfl
   |some y=>rw[(d b (by rw[ho];simp)).1]at e;cases e
  rw[s.frame b hb ho];exact h.own b x e
theorem cV.uY{V V' U:View}{w w':Tp}{es:Array Uq}(s:cV V w V' w' es)(h:Sat U w)(d:jp V U)(d':jp U V):jp V' U/\jp U V':=by
 have key:∀b,V'.own b≠none->V.own b≠none\/w.heap.size<=b:=by
  intro b hb;by_cases hlt:b<w.heap.size
  ·exact .inl λe=>hb (s.own b hlt e)
  ·exact .inr (by omega)
 refine⟨λb hb=> ?_,λb hb=> ?_⟩
 ·rcases key b hb with x|x
  ·refine⟨(d b x).1,λo ho=> ?_⟩;have:=(d b x).2 o ho;cases e:V.ab b o with
   |none=>exact absurd e this
   |some v=>rw[s.ab b o v e];simp
  ·have:=h.fresh x;exact⟨this.1,λo ho=>absurd (this.2 o) ho⟩
 ·have hlt:b<w.heap.size:=by
   cases e:U.own b with
   |none=>exact absurd e hb
   |some x=>exact h.lt e
  refine⟨?_,λo ho=> ?_⟩
  ·exact s.own b hlt (d' b hb).1
  ·cases e:V'.ab b o with
   |none=>exact absurd e ho
   |some v=>
    rcases s.j7 b o v e with x|x|x
    ·exact(d' b hb).2 o (by rw[x];simp)
    ·exact absurd (d' b hb).1 x
    ·omega
theorem dP.uY{V V' U:View}(g:dP V V')(d:jp V U)(d':jp U V):jp V' U/\jp U V':=by
 refine⟨λb hb=> ?_,λb hb=>⟨g.own b (d' b hb).1,λo ho=> ?_⟩⟩
 ·have x:V.own b≠none:=λe=>hb (g.own b e);refine⟨(d b x).1,λo ho=> ?_⟩;cases e:V.ab b o with
  |none=>exact absurd e ((d b x).2 o ho)
  |some v=>rw[g.ab b o v e];simp
 ·cases e:V'.ab b o with
  |none=>exact absurd e ho
  |some v=>
   rcases g.j7 b o v e with x|x
   ·exact(d' b hb).2 o (by rw[x];simp)
   ·exact absurd (d' b hb).1 x
theorem dP.rd{V V':View}(g:dP V V'):∀{l:Loc},gw V' l->gw V l
 |.cell a,h=>by
  rcases h with h|h
  ·exact .inl λe=>h (g.own _ e)
  ·cases e:V'.ab a.block a.off with
   |none=>exact absurd e h
   |some v=>exact(g.j7 _ _ _ e).elim (λx=> .inr (by rw[x];simp)) .inl
 |.obj _,h=>λe=>h (g.own _ e)
theorem dP.wr{V V':View}(g:dP V V'):∀{l:Loc},jq V' l->jq V l
 |.cell a,h=>⟨λe=>h.1 (g.own _ e),by
  cases e:V.ab a.block a.off with
  |none=>rfl
  |some v=>exact absurd (g.ab _ _ _ e) (by rw[h.2];simp)⟩
 |.obj _,h=>λe=>h (g.own _ e)
theorem gw.low{V:View}{w:Tp}(h:Sat V w):∀{l:Loc},gw V l->l.low w.heap.size
 |.cell a,x=>by
  rcases x with x|x
  ·cases e:V.own a.block with
   |none=>exact absurd e x
   |some y=>exact h.lt e
  ·cases e:V.ab a.block a.off with
   |none=>exact absurd e x
   |some y=>exact h.Ck e
 |.obj r,x=>by
  cases e:V.own r with
  |none=>exact absurd e x
  |some y=>exact h.lt e
theorem cV.rd{V V':View}{w w':Tp}{es:Array Uq}(s:cV V w V' w' es):∀{l:Loc},gw V' l->l.low w.heap.size->gw V l
 |.cell a,h,hl=>by
  have ew:a.block<w.heap.size:=hl;rcases h with h|h
  ·exact .inl λe=>h (s.own _ ew e)
  ·cases e:V'.ab a.block a.off with
   |none=>exact absurd e h
   |some v=>
    rcases s.j7 _ _ _ e with x|x|x
    ·exact .inr (by rw[x];simp)
    ·exact .inl x
    ·omega
 |.obj r,h,hl=>λe=>h (s.own _ hl e)
theorem cV.wr{V V':View}{w w':Tp}{es:Array Uq}(s:cV V w V' w' es):∀{l:Loc},jq V' l->l.low w.heap.size->jq V l
 |.cell a,h,hl=>⟨λe=>h.1 (s.own _ hl e),by
  cases e:V.ab a.block a.off with
  |none=>rfl
  |some v=>exact absurd (s.ab _ _ _ e) (by rw[h.2];simp)⟩
 |.obj r,h,hl=>λe=>h (s.own _ hl e)
theorem af7{U V:View}(d:jp U V)(d':jp V U)(l:Loc):(jq U l->¬gw V l/\¬jq V l)/\(gw U l->¬jq V l):=by
 cases l with
 |cell a=>
  refine⟨λh=> ?_,λh=> ?_⟩
  ·have:=d _ h.1;refine⟨λx=> ?_,λx=>x.1 this.1⟩;rcases x with x|x
   ·exact x this.1
   ·exact this.2 _ x h.2
  ·intro x;have:=d' _ x.1;rcases h with h|h
   ·exact h this.1
   ·exact this.2 _ h x.2
 |obj r=>exact⟨λh=>⟨λx=>x (d r h).1,λx=>x (d r h).1⟩,λh x=>h (d' r x).1⟩
 |_=>exact⟨λh=>h.elim,λh=>h.elim⟩
def qe (c Wg:Nat):Loc->Prop
 |.cell a=>a.block=Wg
 |.obj r=>r=c
 |_=>False
structure Core (VV:Nat->View)(N:Nat)(w:Tp)(t:Uk)(Sh:Loc->Prop)(act:Nat->Prop)(ic n0:Nat)(W0:Tp):Prop where
 sat:∀i,i<N->Sat (VV i) w
 dD:∀i j,i<N->j<N->i≠j->jp (VV i) (VV j)
 ti:TI t w.heap.size N (λi l=>i<N/\gw (VV i) l/\¬Sh l) (λi l=>i<N/\jq (VV i) l/\¬Sh l) Sh act ic
 tape:w.tape=W0.tape
 os:w.os=W0.os
 out:w.output=W0.output
 old:∀b,b<n0->w.heap[b]?=W0.heap[b]?
 iU:∀i,i<N->∀b,b<n0->(VV i).own b=none
 n0:n0<=w.heap.size
def upd {α:Type}(f:Nat->α)(i:Nat)(x:α):Nat->α:=λj=>if j=i then x else f j
theorem bu{α:Type}(f:Nat->α)(i:Nat)(x:α):upd f i x i=x:=by simp[upd]
theorem aW{α:Type}(f:Nat->α){i j:Nat}(x:α)(h:j≠i):upd f i x j=f j:=by simp[upd,h]
section
variable {VV:Nat->View}{N:Nat}{w w':Tp}{t:Uk}{Sh:Loc->Prop}{act:Nat->Prop}{ic n0 i:Nat}{W0:Tp}
theorem Core.draw(h:Core VV N w t Sh act ic n0 W0)(d:Nat):Core VV N (w.at d) t Sh act ic n0 W0:=
 ⟨λi hi=>⟨(h.sat i hi).ab,(h.sat i hi).own⟩,h.dD,h.ti,h.tape,h.os,h.out,h.old,h.iU,h.n0⟩
theorem Iq{V:View}{B:Nat}{e:Uq}(he:mA V B e){x:YM}(hx:(Ts e).touch?=some x):(jq V x.loc\/(gw V x.loc/\x.write=false)\/¬x.loc.low B)/\
  (∀c,V.role.chan=some c->x.loc≠ .obj c)/\(∀Wg a,V.role.group=some Wg->x.loc=.cell a->a.block=Wg->x.kind≠ .plain):=by
 obtain⟨l,wr,s⟩:=e;cases l with
 |cell a=>
  simp only[am',Wd,Tl]at hx;subst hx;cases wr with
  |false=>
   refine⟨?_,λc _=>by simp,λWg a' hr ha hb=> ?_⟩
   ·rcases he.1 with h|h|h
    ·exact .inr (.inr (by show ¬a.block<B;omega))
    ·exact .inr (.inl ⟨.inl h,rfl⟩)
    ·exact .inr (.inl ⟨.inr h,rfl⟩)
   ·cases ha;rcases he.2 with h|h
    ·subst h;simp
    ·subst hb;exact absurd hr h
  |true=>
   refine⟨?_,λc _=>by simp,λWg a' hr ha hb=> ?_⟩
   ·rcases he.1 with h|h
    ·exact .inr (.inr (by show ¬a.block<B;omega))
    ·exact .inl h
   ·cases ha;rcases he.2 with h|h
    ·subst h;simp
    ·subst hb;exact absurd hr h
 |obj r=>
  obtain⟨⟨rfl,h2⟩,h3⟩:=he;have e1:Ts ⟨.obj r,wr,false⟩=.access ⟨.obj r,wr,false⟩:=by cases wr<;>rfl
  rw[e1]at hx;simp only[Wd,Tl]at hx;subst hx;refine⟨?_,λc hc e=> ?_,λWg a _ ha=>by cases ha⟩
  ·rcases h2 with h|h
   ·exact .inr (.inr (by show ¬r<B;omega))
   ·exact .inl h
  ·cases e;exact h3 hc
 |mark m=>
  have e1:Ts ⟨.mark m,wr,s⟩=.mark m:=by cases wr<;>cases s<;>rfl
  rw[e1]at hx;cases m<;>simp only[Wd,Tl,reduceCtorEq]at hx
  all_goals
   subst hx;refine⟨?_,λc _=>by simp,λWg a' _ _ _=>by simp⟩;have jN:l9 V B _:=he;rcases jN with h|h
   ·exact .inr (.inr (by simp only[Loc.low];omega))
   ·exact .inl h
 |_=>exact he.elim
theorem Core.O1(h:Core VV N w t Sh act ic n0 W0)(l:Loc){i j:Nat}(hi:i<N)(hj:j≠i):
  ((i<N/\jq (VV i) l/\¬Sh l)->¬(j<N/\gw (VV j) l/\¬Sh l)/\¬(j<N/\jq (VV j) l/\¬Sh l))/\((i<N/\gw (VV i) l/\¬Sh l)->¬(j<N/\jq (VV j) l/\¬Sh l)):=by
 by_cases BL:j<N
 ·have:=af7 (h.dD i j hi BL (Ne.symm hj)) (h.dD j i BL hi hj) l;exact⟨λ⟨_,x,_⟩=>⟨λ⟨_,y,_⟩=>(this.1 x).1 y,λ⟨_,y,_⟩=>(this.1 x).2 y⟩,λ⟨_,x,_⟩ ⟨_,y,_⟩=>this.2 x y⟩
 ·exact⟨λ_=>⟨λ⟨y,_⟩=>BL y,λ⟨y,_⟩=>BL y⟩,λ_ ⟨y,_⟩=>BL y⟩
theorem Core.step(h:Core VV N w t Sh act ic n0 W0)(hi:i<N){V':View}{es:Array Uq}(s:cV (VV i) w V' w' es)
  (dK:∀e∈es,∀x,(Ts e).touch?=some x->Sh x.loc->(x.kind=.atomic/\act i)\/(x.kind=.said/\i=ic/\act i)) (fn:TO) (pos:String):
  Core (upd VV i V') N w' (t++Ta i fn pos es) Sh act ic n0 W0 where
 sat j hj:=by
  by_cases ce:j=i
  ·subst ce;rw[bu];exact s.sat
  ·rw[aW _ _ ce];exact s.others (h.sat i hi) (h.sat j hj) (h.dD i j hi hj (Ne.symm ce))
 dD a b ha hb fC:=by
  by_cases mS:a=i
  ·subst mS;have vf:b≠a:=Ne.symm fC;rw[bu,aW _ _ vf];exact(s.uY (h.sat b hb) (h.dD a b ha hb fC) (h.dD b a hb ha vf)).1
  ·by_cases ik:b=i
   ·subst ik;rw[bu,aW _ _ mS];exact(s.uY (h.sat a ha) (h.dD b a hb ha (Ne.symm fC)) (h.dD a b ha hb fC)).2
   ·rw[aW _ _ mS,aW _ _ ik];exact h.dD a b ha hb fC
 ti:=by
  refine h.ti.app hi (λop au=>by obtain⟨e,_,rfl⟩:=TL au;rfl) (λop au x hx=> ?_) (λop au=>by obtain⟨e,he,rfl⟩:=TL au;exact s.low e he) s.size (λop au a=> ?_)
   (λj l hj ⟨x,y⟩=>by rw[aW _ _ hj]at y;exact⟨x,y⟩) (λj l hj ⟨x,y⟩=>by rw[aW _ _ hj]at y;exact⟨x,y⟩)
   (λl ⟨x,y,z⟩ hl=>by rw[bu]at y;exact .inl ⟨x,s.rd y hl,z⟩) (λl ⟨x,y,z⟩ hl=>by rw[bu]at y;exact⟨x,s.wr y hl,z⟩)
   (λl j hj=>h.O1 l hi hj) (λl j hs=>⟨λx=>x.2.2 hs,λx=>x.2.2 hs⟩) (λj l x=>x.elim (λy=>gw.low (h.sat j y.1) y.2.1) (λy=>gw.low (h.sat j y.1) y.2.1.rd))
  ·obtain⟨e,he,rfl⟩:=TL au;by_cases hs:Sh x.loc
   ·rcases dK e he x hx hs with⟨a,b⟩|⟨a,b,c⟩
    ·exact .inl ⟨hs,a,b⟩
    ·exact .inr (.inl ⟨hs,a,b,c⟩)
   ·refine .inr (.inr ⟨hs,?_⟩);rcases(Iq (s.eT e he) hx).1 with x'|⟨x',y⟩|x'
    ·exact .inl ⟨hi,x',hs⟩
    ·exact .inr (.inl ⟨⟨hi,x',hs⟩,y⟩)
    ·exact .inr (.inr x')
  ·obtain⟨e,he,rfl⟩:=TL au;intro e';have hk:=s.eT e he;obtain⟨l,wr,sy⟩:=e;cases l with
   |mark m=>
    have e1:Ts ⟨.mark m,wr,sy⟩=.mark m:=(by cases wr<;>cases sy<;>rfl);simp only[e1,ai_]at e';subst e';exact hk
   |cell a'=>simp[am']at e'
   |obj r=>cases wr<;>cases sy<;>simp[Ts]at e'
   |_=>exact hk
 tape:=s.tape.trans h.tape
 os:=s.os.trans h.os
 out:=s.output.trans h.out
 old b hb:=(s.frame b (Tc hb h.n0) (h.iU i hi b hb)).trans (h.old b hb)
 iU j hj b hb:=by
  by_cases ce:j=i
  ·subst ce;rw[bu];exact s.own b (Tc hb h.n0) (h.iU j hj b hb)
  ·rw[aW _ _ ce];exact h.iU j hj b hb
 n0:=UF h.n0 s.size
theorem Core.ghost(h:Core VV N w t Sh act ic n0 W0)(hi:i<N){V':View}(g:dP (VV i) V'):Core (upd VV i V') N w t Sh act ic n0 W0 where
 sat j hj:=by
  by_cases ce:j=i
  ·subst ce;rw[bu];exact g.sat _ (h.sat j hj)
  ·rw[aW _ _ ce];exact h.sat j hj
 dD a b ha hb fC:=by
  by_cases mS:a=i
  ·subst mS;have vf:b≠a:=Ne.symm fC;rw[bu,aW _ _ vf];exact(g.uY (h.dD a b ha hb fC) (h.dD b a hb ha vf)).1
  ·by_cases ik:b=i
   ·subst ik;rw[bu,aW _ _ mS];exact(g.uY (h.dD b a hb ha (Ne.symm fC)) (h.dD a b ha hb fC)).2
   ·rw[aW _ _ mS,aW _ _ ik];exact h.dD a b ha hb fC
 ti:=h.ti.weaken (SQ _) (λj l _ ⟨x,y,z⟩=>by
   by_cases ce:j=i
   ·subst ce;rw[bu]at y;exact .inl ⟨x,g.rd y,z⟩
   ·rw[aW _ _ ce]at y;exact .inl ⟨x,y,z⟩) (λj l _ ⟨x,y,z⟩=>by
   by_cases ce:j=i
   ·subst ce;rw[bu]at y;exact⟨x,g.wr y,z⟩
   ·rw[aW _ _ ce]at y;exact⟨x,y,z⟩) h.ti.sp
 tape:=h.tape
 os:=h.os
 out:=h.out
 old:=h.old
 iU j hj b hb:=by
  by_cases ce:j=i
  ·subst ce;rw[bu];exact g.own b (h.iU j hj b hb)
  ·rw[aW _ _ ce];exact h.iU j hj b hb
 n0:=h.n0
def l8 (V' V:View):Prop:=(∀b,V'.own b=none\/V'.own b=V.own b)/\(∀b o,V'.ab b o=none\/V'.ab b o=V.ab b o)/\(∀b,V'.own b≠none->∀o,V'.ab b o=V.ab b o)
theorem l8.sat{V V':View}(l:l8 V' V){w:Tp}(h:Sat V w):Sat V' w:=
 ⟨λb o v e=>h.ab b o v (by rcases l.2.1 b o with x|x<;>rw[x]at e;cases e;exact e),λb x e=>h.own b x (by rcases l.1 b with y|y<;>rw[y]at e;cases e;exact e)⟩
theorem l8.rd{V V':View}(k:l8 V' V):∀{l:Loc},gw V' l->gw V l
 |.cell a,h=>h.imp (λx y=>by rcases k.1 a.block with z|z;exact x z;exact x (z.trans y)) (λx y=>by rcases k.2.1 a.block a.off with z|z;exact x z;exact x (z.trans y))
 |.obj r,h=>λy=>by rcases k.1 r with z|z;exact h z;exact h (z.trans y)
theorem l8.wr{V V':View}(k:l8 V' V):∀{l:Loc},jq V' l->jq V l
 |.cell a,h=>⟨λy=>by rcases k.1 a.block with z|z;exact h.1 z;exact h.1 (z.trans y),by rw[<- k.2.2 _ h.1];exact h.2⟩
 |.obj r,h=>λy=>by rcases k.1 r with z|z;exact h z;exact h (z.trans y)
theorem l8.uY{V V' U:View}(k:l8 V' V)(d:jp V U)(d':jp U V):jp V' U/\jp U V':=by
 refine⟨λb hb=> ?_,λb hb=>⟨?_,λo ho=> ?_⟩⟩
 ·have x:V.own b≠none:=λy=>by rcases k.1 b with z|z;exact hb z;exact hb (z.trans y)
  exact⟨(d b x).1,λo ho=>by rw[k.2.2 b hb];exact(d b x).2 o ho⟩
 ·rcases k.1 b with z|z;exact z;exact z.trans (d' b hb).1
 ·exact(d' b hb).2 o λy=>by rcases k.2.1 b o with z|z;exact ho z;exact ho (z.trans y)
theorem Core.less(h:Core VV N w t Sh act ic n0 W0)(hi:i<N){V':View}(k:l8 V' (VV i)):Core (upd VV i V') N w t Sh act ic n0 W0 where
 sat j hj:=by
  by_cases ce:j=i
  ·subst ce;rw[bu];exact k.sat (h.sat j hj)
  ·rw[aW _ _ ce];exact h.sat j hj
 dD a b ha hb fC:=by
  by_cases mS:a=i
  ·subst mS;have vf:b≠a:=Ne.symm fC;rw[bu,aW _ _ vf];exact(k.uY (h.dD a b ha hb fC) (h.dD b a hb ha vf)).1
  ·by_cases ik:b=i
   ·subst ik;rw[bu,aW _ _ mS];exact(k.uY (h.dD b a hb ha (Ne.symm fC)) (h.dD a b ha hb fC)).2
   ·rw[aW _ _ mS,aW _ _ ik];exact h.dD a b ha hb fC
 ti:=h.ti.weaken (SQ _) (λj l _ ⟨x,y,z⟩=>by
   by_cases ce:j=i
   ·subst ce;rw[bu]at y;exact .inl ⟨x,k.rd y,z⟩
   ·rw[aW _ _ ce]at y;exact .inl ⟨x,y,z⟩) (λj l _ ⟨x,y,z⟩=>by
   by_cases ce:j=i
   ·subst ce;rw[bu]at y;exact⟨x,k.wr y,z⟩
   ·rw[aW _ _ ce]at y;exact⟨x,y,z⟩) h.ti.sp
 tape:=h.tape
 os:=h.os
 out:=h.out
 old:=h.old
 iU j hj b hb:=by
  by_cases ce:j=i
  ·subst ce;rw[bu];rcases k.1 b with z|z;exact z;exact z.trans (h.iU j hj b hb)
  ·rw[aW _ _ ce];exact h.iU j hj b hb
 n0:=h.n0
theorem Core.sM(h:Core VV N w t Sh act ic n0 W0)(hi:i<N){es:Array Uq}(cj:∀e∈es,∀x,(Ts e).touch?=some x->Fit w.heap.size (λi l=>i<N/\gw (VV i) l/\¬Sh l) (λi l=>i<N/\jq (VV i) l/\¬Sh l) Sh act ic i x)
  (gN:∀e∈es,(Ts e).low w.heap.size) (qI:∀e∈es,∀a,Ts e≠ .mark (.release a)) (SB:Nat->Prop) (Ky:∀b,SB b->n0<=b/\∀j,j<N->(VV j).own b=none/\∀o,(VV j).ab b o=none)
  (aT:w'.heap.size=w.heap.size) (jh:∀b,¬SB b->w'.heap[b]?=w.heap[b]?) (ht:w'.tape=w.tape) (ho:w'.os=w.os) (hu:w'.output=w.output) (fn:TO) (pos:String):
  Core VV N w' (t++Ta i fn pos es) Sh act ic n0 W0 where
 sat j hj:=by
  have hs:=h.sat j hj;refine⟨λb o v e=> ?_,λb x e=> ?_⟩
  ·have hb:¬SB b:=λx=>(by rw[((Ky b x).2 j hj).2 o]at e;cases e);have:=hs.ab b o v e;simp only[Ux,jh b hb];exact this
  ·have hb:¬SB b:=λy=>(by rw[((Ky b y).2 j hj).1]at e;cases e);rw[jh b hb];exact hs.own b x e
 dD:=h.dD
 ti:=by
  rw[aT];refine h.ti.app hi (λop au=>by obtain⟨e,_,rfl⟩:=TL au;rfl) (λop au x hx=>by obtain⟨e,he,rfl⟩:=TL au;exact cj e he x hx) (λop au=>by obtain⟨e,he,rfl⟩:=TL au;exact gN e he) (SQ _) (λop au a=>by obtain⟨e,he,rfl⟩:=TL au;exact qI e he a)
   (λj l _ x=>x) (λj l _ x=>x) (λl x _=> .inl x) (λl x _=>x) (λl j hj=>h.O1 l hi hj) (λl j hs=>⟨λx=>x.2.2 hs,λx=>x.2.2 hs⟩) (λj l x=>x.elim (λy=>gw.low (h.sat j y.1) y.2.1) (λy=>gw.low (h.sat j y.1) y.2.1.rd))
 tape:=ht.trans h.tape
 os:=ho.trans h.os
 out:=hu.trans h.out
 old b hb:=(jh b (λx=>by have:=(Ky b x).1;omega)).trans (h.old b hb)
 iU:=h.iU
 n0:=by rw[aT];exact h.n0
theorem Core.quiet(h:Core VV N w t Sh act ic n0 W0)(hi:i<N){es:Array Uq}(Jz:∀e∈es,(Ts e).touch?=none/\(Ts e).low w.heap.size/\∀a,Ts e≠ .mark (.release a))(fn:TO)(pos:String):
  Core VV N w (t++Ta i fn pos es) Sh act ic n0 W0:=
 h.sM hi (λe he x hx=>by rw[(Jz e he).1]at hx;cases hx) (λe he=>(Jz e he).2.1) (λe he=>(Jz e he).2.2) (λ_=>False) (λb x=>x.elim) rfl (λ_ _=>rfl) rfl rfl rfl fn pos
theorem Core.role(h:Core VV N w t Sh act ic n0 W0)(hi:i<N){V':View}(h1:V'.ab=(VV i).ab)(h2:V'.own=(VV i).own):Core (upd VV i V') N w t Sh act ic n0 W0:=
 h.less hi ⟨λb=> .inr (by rw[h2]),λb o=> .inr (by rw[h1]),λb _ o=>by rw[h1]⟩
end
inductive GS where
 |gone (q:Nat)
 |work (j:Nat) (h:Ht) (V:View)
 |nk (j:Nat) (h:Ht) (V V':View) (g0:SH) (v z:SO)
 |add (n:Nat)
 |load (n:Nat)
 |store (n:Nat)
 |lX (n:Nat)
 |head (k n:Nat)
 |lG (v n:Nat)
 |said (n:Nat)
 |gL (n:Nat)
 |last (n:Nat)
 |acq (n:Nat)
 |look (n:Nat)
 |close (n:Nat)
def noView:View:={ab:=λ_ _=>none,own:=λ_=>none,deaf:=0,role:=.plain}
def GS.view (Im:cm):GS->View
 |.work _ _ V=>V
 |.nk _ _ V _ _ _ _=>V
 |.head .. |.lG .. |.said _|.gL _|.last _|.acq _|.look _=>{noView with ab:=Im}
 |_=>noView
def GS.cnt:GS->Nat
 |.work .. |.nk .. |.add _=>1
 |_=>0
def GS.late:GS->Nat
 |.load _|.store _|.lX _=>1
 |_=>0
def GS.idx:GS->Option Nat
 |.work j _ _=>some j
 |.nk j _ _ _ _ _ _=>some j
 |_=>none
def GS.shape:GS->GS
 |.gone _=> .gone 0
 |.work j _ _=> .work j .z noView
 |.nk j _ _ _ _ _ _=> .work j .z noView
 |.add _=> .add 0
 |.load _=> .load 0
 |.store _=> .store 0
 |.lX _=> .lX 0
 |.head k _=> .head k 0
 |.lG v _=> .lG v 0
 |.said _=> .said 0
 |.gL _=> .gL 0
 |.last _=> .last 0
 |.acq _=> .acq 0
 |.look _=> .look 0
 |.close _=> .close 0
theorem GS.mM:∀K:GS,K.shape.cnt=K.cnt:=by intro K;cases K<;>rfl
theorem GS.lU:∀K:GS,K.shape.late=K.late:=by intro K;cases K<;>rfl
theorem GS.FD:∀K:GS,K.shape.idx=K.idx:=by intro K;cases K<;>rfl
def GS.mL:GS->Bool
 |.head .. |.lG .. |.said _|.gL _|.last _|.acq _|.look _|.close _=>true
 |_=>false
theorem GS.Oh:∀K:GS,K.shape.mL=K.mL:=by intro K;cases K<;>rfl
def GS.cT:GS->x9
 |.gone q=>⟨0,.z,q⟩
 |.work _ h V=>⟨11+2* (match V.role with|.work _ _ S=>S.length|_=>0),h,0⟩
 |.nk _ h V _ _ _ _=>⟨10+2* (match V.role with|.work _ _ S=>S.length|_=>0),h,0⟩
 |.add n=>⟨8,.z,n⟩
 |.load n=>⟨7,.z,n⟩
 |.store n=>⟨6,.z,n⟩
 |.lX n=>⟨5,.z,n⟩
 |.head k n=>⟨100+3* k,.z,n⟩
 |.lG v n=>⟨102+3* v,.z,n⟩
 |.said n=>⟨60,.z,n⟩
 |.gL n=>⟨50,.z,n⟩
 |.last n=>⟨40,.z,n⟩
 |.acq n=>⟨30,.z,n⟩
 |.look n=>⟨20,.z,n⟩
 |.close n=>⟨15,.z,n⟩
section
variable (P:SJ)(c Wg:Nat)(Im:cm)(Ss:List (List Spec))
def Db (v d:Nat)(g:SH):Prop:=d=1/\g.status=.running/\
 (∃g',(∀w,WgAt P Wg w ((v:Int)* KK) 0->stepG P false g w=.go g' (w.setCell (dO Wg) (.int .u64 ((v:Int)* KK+1))) #[iJ (dO Wg),ky (dO Wg)])/\∃n,gJ P Wg (Dc P Im c Wg) n 1 g')/\
 (∀u:Nat,u<v->∃g',(∀w,WgAt P Wg w ((u:Int)* KK) 0->stepG P false g w=.go g' w #[iJ (dO Wg)])/\∃n,cL P (ek P Im c Wg v) n 1 g')
theorem ek.succ{k d:Nat}{g:SH}(h:ek P Im c Wg (k+1) d g):d=1/\g.status=.running/\∀v:Nat,v<=k->v<=4->∃g',(∀w,WgAt P Wg w ((v:Int)* KK) 0->stepG P false g w=.go g' w #[iJ (dO Wg)])/\
  (v=0->∃n,gJ P Wg (sS P Im c Wg) n 1 g')/\(v≠0->∃n,cL P (Db P c Wg Im v) n 1 g'):=by
 rw[ek]at h;exact h
theorem ek.zero{d:Nat}{g:SH}(h:ek P Im c Wg 0 d g):False:=by
 rw[ek]at h;exact h
def GS.is:GS->Nat->SH->Prop
 |.gone q,d,g=>Y7 P q d g
 |.work j h V,d,g=>d=V.deaf/\kR P h V g/\∃S,Ss[j]?=some S/\V.role=.work c Wg S
 |.nk j h V V' g0 v z,d,g=>d=0/\V.deaf=0/\g=parked g0 #[scase c v z] .send/\kR P h V' (T4 g0 undef)/\∃sp S,∃B:Nat->Bool,Ss[j]?=some (sp::S)/\V.role=.work c Wg (sp::S)/\
   sp v V.ab (λb=>if B b then V.own b else none)/\V'={V with own:=λb=>if B b then none else V.own b,role:=.work c Wg S}
 |.add n,d,g=>cL P (Aj P Wg) n d g
 |.load n,d,g=>cL P (De P Wg) n d g
 |.store n,d,g=>cL P (Dg P Wg) n d g
 |.lX n,d,g=>cL P (Df P Wg) n d g
 |.head k n,d,g=>cL P (ek P Im c Wg k) n d g
 |.lG v n,d,g=>cL P (Db P c Wg Im v) n d g
 |.said n,d,g=>gJ P Wg (Dc P Im c Wg) n d g
 |.gL n,d,g=>cL P (Dd P Im c Wg) n d g\/(n=0/\∃g1,g={g1 with status:=.blocked}/\Dd P Im c Wg d g1)
 |.last n,d,g=>cL P (Hb P Im c Wg) n d g
 |.acq n,d,g=>gJ P Wg (sS P Im c Wg) n d g
 |.look n,d,g=>cL P (Hc P Im c) n d g
 |.close n,d,g=>cL P (Ha P c) n d g
end
theorem cL.running{P:SJ}{Stop:Nat->SH->Prop}(hs:∀d g,Stop d g->g.status=.running):∀{n d:Nat}{g:SH},cL P Stop n d g->g.status=.running
 |0,_,_,h=>hs _ _ h
 |_+1,_,_,h=>h.elim (hs _ _) (λx=>x.1)
theorem gJ.running{P:SJ}{Wg:Nat}{Stop:Nat->SH->Prop}(hs:∀d g,Stop d g->g.status=.running):∀{n d:Nat}{g:SH},gJ P Wg Stop n d g->g.status=.running
 |0,_,_,h=>hs _ _ h
 |_+1,_,_,h=>h.elim (hs _ _) (λx=>x.1)
theorem Qy{P:SJ}{Im:cm}{c Wg:Nat}:∀{k d:Nat}{g:SH},ek P Im c Wg k d g->g.status=.running
 |0,_,_,h=>(ek.zero P c Wg Im h).elim
 |_+1,_,_,h=>(ek.succ P c Wg Im h).2.1
theorem GS.runs{P:SJ}{c Wg:Nat}{Im:cm}{Ss:List (List Spec)}{K:GS}{d:Nat}{g:SH}(h:K.is P c Wg Im Ss d g):
  g.status=.running\/g.status=.finished/\(∃q,K=.gone q)\/(∃j h V V' g0 v z,K=.nk j h V V' g0 v z)\/((∃n,K=.gL n)/\g.status=.blocked/\g.offers=none):=by
 cases K with
 |gone q=>exact(ZG h).elim .inl (λx=> .inr (.inl ⟨x,q,rfl⟩))
 |work j h' V=>exact .inl h.2.1.running
 |nk j h' V V' g0 v z=>exact .inr (.inr (.inl ⟨j,h',V,V',g0,v,z,rfl⟩))
 |add n=>exact .inl (cL.running (λd g x=>x.2.1) h)
 |load n=>exact .inl (cL.running (λd g x=>x.2.1) h)
 |store n=>exact .inl (cL.running (λd g x=>x.2.1) h)
 |lX n=>exact .inl (cL.running (λd g x=>x.2.1) h)
 |head k n=>exact .inl (cL.running (λd g x=>Qy x) h)
 |lG v n=>exact .inl (cL.running (λd g x=>x.2.1) h)
 |said n=>exact .inl (gJ.running (λd g x=>x.2.1) h)
 |gL n=>
  rcases h with h|⟨_,g1,rfl,h⟩
  ·exact .inl (cL.running (λd g x=>x.2.1) h)
  ·exact .inr (.inr (.inr ⟨⟨n,rfl⟩,rfl,h.2.2.1⟩))
 |last n=>exact .inl (cL.running (λd g x=>x.2.1) h)
 |acq n=>exact .inl (gJ.running (λd g x=>x.2.1) h)
 |look n=>exact .inl (cL.running (λd g x=>x.2.1) h)
 |close n=>exact .inl (cL.running (λd g x=>x.2.1) h)
structure Rel (Wg:Nat)(t:Uk)(i r:Nat):Prop where
 act:t.act? r=some (.mark (.releaseMerge (dO Wg)))
 g:t.g? r=some i
 heard:t.heard r
theorem Rel.app{Wg:Nat}{t u:Uk}{i r:Nat}(h:Rel Wg t i r):Rel Wg (t++u) i r:=
 have hr:=Wa h.act
 ⟨by rw[X7 hr];exact h.act,by rw[g?_old hr];exact h.g,(Wq hr).2 h.heard⟩
inductive dZ where
 |early
 |got
 |shut (p:Nat)
 deriving DecidableEq
def wa (Wg:Nat)(t:Uk)(K:Nat->GS)(ic:Nat):dZ->Nat->Prop
 |.early,idx=>∃i,t.g? idx=some i/\0<i/\(((K i).idx.isSome=true)\/(i=ic)\/∃r,Rel Wg t i r/\idx<=r)
 |.got,idx=>Wm t ic idx
 |.shut p,idx=>Before t idx p
def Rest (Wg:Nat)(t:Uk)(K:Nat->GS)(ic:Nat)(st:Option dZ):Prop:=
 ∀idx a,touchAt t idx=some a->a.loc.isMemory=true->Wm t 0 idx\/(a.kind=.atomic/\¬t.heard idx)\/∃s,st=some s/\wa Wg t K ic s idx
def Mode (P:SJ)(c Wg N:Nat)(w:Tp)(gs:Array SH)(t:Uk)(K:Nat->GS)(ic:Nat)(s:dZ):Prop:=
 let cn:Nat:=sumTo N λi=>(K i).cnt;let la:Nat:=sumTo N λi=>(K i).late;let opn:=∃n,w.heap[c]?=some (.chan 0 #[] false n n false)
 (opn/\s=.early/\la=0/\cn<=4/\WgAt P Wg w ((cn:Int)* KK) 0/\((∃k,(K ic).shape=.head k 0/\cn<k)\/(∃v,(K ic).shape=.lG v 0/\cn<=v/\0<v)))\/
 (opn/\s=.early/\la=0/\1<=cn/\cn<=4/\WgAt P Wg w ((cn:Int)* KK+1) 0/\((K ic).shape=.said 0\/(K ic).shape=.gL 0))\/
 (opn/\s=.early/\la=1/\cn=0/\((K ic).shape=.said 0\/(K ic).shape=.gL 0)/\(∀i,i<N->((K i).shape=.load 0\/(K i).shape=.store 0)->WgAt P Wg w 1 0)/\(∀i,i<N->(K i).shape=.lX 0->WgAt P Wg w 0 0))\/
 (opn/\s=.early/\la=0/\cn=0/\WgAt P Wg w 0 1/\(∀g,gs[ic]?=some g->g.status=.running)/\((K ic).shape=.said 0\/(K ic).shape=.gL 0))\/
 (opn/\s=.early/\la=0/\cn=0/\WgAt P Wg w 0 0/\((K ic).shape=.last 0\/(K ic).shape=.acq 0))\/
 (opn/\s=.got/\la=0/\cn=0/\((K ic).shape=.look 0\/(K ic).shape=.close 0))\/
 ((∃p n,s=.shut p/\t.act? p=some (.close c)/\t.heard p/\w.heap[c]?=some (.chan 0 #[] true n n false))/\la=0/\cn=0/\(K ic).shape=.gone 0)
def jV (gs:Array SH)(g:SH):Prop:=∃g0,gs[0]?=some g0/\g0.status=.running/\g0.frame=g.frame/\g0.callers=g.callers/\g0.dying=g.dying
def nw (gs:Array SH)(g:SH)(c:Nat):Prop:=∃g0 z,gs[0]?=some (parked g0 #[rcase c z] (.recv true))/\g0.frame=g.frame/\g0.callers=g.callers/\g0.dying=g.dying
structure Phase where
 c:Nat
 Wg:Nat
 Ss:List (List Spec)
 recv:Bool
def bA (V:View)(Im:cm)(K:Nat->GS):Nat->View:=λi=>if i=0 then V else(K i).view Im
structure Inv (P:SJ)(n0:Nat)(W0:Tp)(V:View)(gs:Array SH)(w:Tp)(t:Uk)(K:Nat->GS)(Im:cm)(ic:Nat)(ph:Option Phase)(st:Option dZ):Prop where
 pos:0<gs.size
 k0:K 0=.gone 0
 d0:UQ t 0=V.deaf
 «is» : ∀ i g, 0 < i -> gs[i]? = some g -> match ph with
  |some p=>(K i).is P p.c p.Wg Im p.Ss (UQ t i) g
  |none=>∃q,K i=.gone q/\Y7 P q (UQ t i) g
 core:Core (bA V Im K) gs.size w t (match ph with|some p=>qe p.c p.Wg|none=>λ_=>False)
  (λi=>match ph with|some p=>if p.recv then 0<i/\i<gs.size/\((K i).idx.isSome=true\/i=ic\/(K i).cnt=1\/(K i).late=1)else i=0\/(i<gs.size/\(K i).idx.isSome=true)|none=>False) ic n0 W0
 rest:Rest (match ph with|some p=>p.Wg|none=>0) t K ic st
 phase:match ph with
  |none=>st=none
  |some p=>n0<=p.c/\n0<=p.Wg/\p.c≠p.Wg/\p.c<w.heap.size/\p.Wg<w.heap.size/\p.Ss.length<=4/\
   (∀i,0<i->((K i).view Im).own p.c=none/\(∀o,((K i).view Im).ab p.c o=none)/\((K i).view Im).own p.Wg=none/\(∀o,((K i).view Im).ab p.Wg o=none)/\((K i).mL=true->i=ic))/\
   (∀i i' j,0<i->i<gs.size->0<i'->i'<gs.size->(K i).idx=some j->(K i').idx=some j->i=i')/\
   (∀j S,p.Ss[j]?=some S->S≠[]->∃i,0<i/\i<gs.size/\(K i).idx=some j)/\
   (if p.recv then(V.own p.c=none/\(∀o,V.ab p.c o=none)/\V.own p.Wg=none/\(∀o,V.ab p.Wg o=none))/\0<ic/\ic<gs.size/\(∃s,st=some s/\Mode P p.c p.Wg gs.size w gs t K ic s)
    else V.own p.c=some (.chan 0 #[] false 0 0 false)/\ic=0/\st=some .early/\(∀i,0<i->i<gs.size->(K i).idx.isSome=true\/∃q,K i=.gone q)/\(∀S∈p.Ss,S≠[])/\(sumTo gs.size λi=>(K i).cnt)=p.Ss.length)
theorem z8(K:Nat->GS)(k:GS)(φ:GS->Nat){i N:Nat}(hi:i<N):sumTo N (λa=>φ (upd K i k a))+φ (K i)=sumTo N (λa=>φ (K a))+φ k:=sumTo_upd K k φ hi
theorem kM(K:Nat->GS)(k:GS)(φ:GS->Nat){i N:Nat}(h:φ k=φ (K i)):sumTo N (λa=>φ (upd K i k a))=sumTo N (λa=>φ (K a)):=
 Vl λa _=>by by_cases ha:a=i;subst ha;rw[bu,h];rw[aW _ _ ha]
theorem Core.AK{VV:Nat->View}{N:Nat}{w:Tp}{t:Uk}{Sh:Loc->Prop}{act act':Nat->Prop}{ic n0:Nat}{W0:Tp}(h:Core VV N w t Sh act ic n0 W0)(ha:∀i,act' i->act i):Core VV N w t Sh act' ic n0 W0:=
 ⟨h.sat,h.dD,h.ti.weaken (SQ _) (λ_ _ _ x=> .inl x) (λ_ _ _ x=>x) (λidx a x y=>⟨λhp i hi=>(h.ti.sp idx a x y).1 hp i (ha i hi),(h.ti.sp idx a x y).2⟩),h.tape,h.os,h.out,h.old,h.iU,h.n0⟩
theorem Core.congr{VV Dt:Nat->View}{N:Nat}{w:Tp}{t:Uk}{Sh:Loc->Prop}{act:Nat->Prop}{ic n0:Nat}{W0:Tp}(h:Core VV N w t Sh act ic n0 W0)(e:∀i,i<N->Dt i=VV i):Core Dt N w t Sh act ic n0 W0:=
 ⟨λi hi=>by rw[e i hi];exact h.sat i hi,λi j hi hj jP=>by rw[e i hi,e j hj];exact h.dD i j hi hj jP,
  h.ti.weaken (SQ _) (λi l hi ⟨x,y,z⟩=> .inl ⟨x,by rw[<- e i hi];exact y,z⟩) (λi l hi ⟨x,y,z⟩=>⟨x,by rw[<- e i hi];exact y,z⟩) h.ti.sp,h.tape,h.os,h.out,h.old,λi hi b hb=>by rw[e i hi];exact h.iU i hi b hb,h.n0⟩
theorem MW(V:View)(Im:cm)(K:Nat->GS){i:Nat}(hi:0<i)(k:GS):bA V Im (upd K i k)=upd (bA V Im K) i (k.view Im):=by
 funext j;by_cases hj:j=i
 ·subst hj;rw[bu];simp[bA,bu];omega
 ·rw[aW _ _ hj];simp[bA,aW _ _ hj]
theorem Sa{P:SJ}{c Wg:Nat}{Im:cm}{Ss:List (List Spec)}{k:GS}{d:Nat}{x g g':SH}{w':Tp}(ho:(∃n,w'.heap[c]?=some (.chan 0 #[] false n n false))\/k.idx=none) (h:k.is P c Wg Im Ss d x):
  k.is P c Wg Im Ss d (woken P g g' w' x):=by
 rcases GS.runs h with hr|⟨hf,q,rfl⟩|⟨j,h',V,V',g0,v,z,rfl⟩|⟨⟨n,rfl⟩,hb,hof⟩
 ·rw[Ym hr];exact h
 ·rw[woken_quitsD h];exact h
 ·rcases ho with⟨n,ho⟩|ho
  ·obtain⟨h1,h2,rfl,h4⟩:=h;rw[woken_send_open _ _ ho];exact⟨h1,h2,rfl,h4⟩
  ·cases ho
 ·rcases h with h|⟨hn,g1,rfl,h⟩
  ·rw[cL.running (λd g x=>x.2.1) h]at hb;cases hb
  ·unfold woken;split
   ·subst hn;refine .inl ?_;have e:({g1 with status:=atc}:SH).again w'=g1:=by
     obtain⟨f,cs,s,dy,o⟩:=g1;have h2:=h.2.1;have h3:=h.2.2.1;simp only at h2 h3;subst h2 h3;rfl
    rw[e];exact h
   ·exact .inr ⟨hn,g1,rfl,h⟩
theorem LC{P:SJ}{gs:Array SH}{g:SH}{w':Tp}{i:Nat}{gi bx:SH}(hi:0<i)(h:jV gs g):jV ((gs.map (woken P gi bx w')).setIfInBounds i bx) g:=by
 obtain⟨g0,h0,h1,h2⟩:=h;exact⟨g0,by rw[SU (by omega),WC,h0];simp[Ym h1],h1,h2⟩
theorem LZ{P:SJ}{gs:Array SH}{g:SH}{w':Tp}{i c:Nat}{gi bx:SH}(hi:0<i)(h:nw gs g c)(ho:∃n,w'.heap[c]?=some (.chan 0 #[] false n n false)):nw ((gs.map (woken P gi bx w')).setIfInBounds i bx) g c:=by
 obtain⟨g0,z,h0,h2⟩:=h;obtain⟨n,ho⟩:=ho;exact⟨g0,z,by rw[SU (by omega),WC,h0];simp[woken_recv_open _ _ ho],h2⟩
theorem anq{P:SJ}{gs:Array SH}{g:SH}{w':Tp}{i c:Nat}{gi bx:SH}(hi:0<i)(h:nw gs g c)(hw:mayWake P gi=true)(hs:bx.status=.running\/bx.status=.finished)(ho:∃n,w'.heap[c]?=some (.chan 0 #[] true n n false)):
  jV ((gs.map (woken P gi bx w')).setIfInBounds i bx) g:=by
 obtain⟨g0,z,h0,h2⟩:=h;obtain⟨n,ho⟩:=ho;refine⟨{parked g0 #[rcase c z] (.recv true)with status:=.running},?_,rfl,h2⟩;rw[SU (by omega),WC,h0];have:woken P gi bx w' (parked g0 #[rcase c z] (.recv true))={parked g0 #[rcase c z] (.recv true)with status:=.running}:=by
  unfold woken;have hc:(mayWake P gi&&bx.status != .blocked&&bx.status != .waiting)=true:=by rcases hs with hs|hs<;>simp[hw,hs]
  rw[if_pos hc,again_recv_closed ho]
 simp[this]
def x7 (w:Tp)(c:Nat):Prop:=∃n,w.heap[c]?=some (.chan 0 #[] false n n false)
def Ho (gs gs':Array SH)(w w':Tp)(g:SH)(c:Nat):Prop:=(jV gs g->jV gs' g)/\(nw gs g c->x7 w c->jV gs' g\/(nw gs' g c/\x7 w' c))
def Calm (gs:Array SH):Prop:=∀i x,0<i->gs[i]?=some x->x.status=.blocked->x.offers=none
def flag (gs:Array SH)(ic:Nat):Nat:=if(gs[ic]?).any (·.status== .running)then 1 else 0
def iH (p:Phase)(N ic:Nat)(K:Nat->GS)(i:Nat):Prop:=if p.recv then 0<i/\i<N/\((K i).idx.isSome=true\/i=ic\/(K i).cnt=1\/(K i).late=1)else i=0\/(i<N/\(K i).idx.isSome=true)
section
variable {P:SJ}{n0:Nat}{W0:Tp}{V:View}{gs:Array SH}{w:Tp}{t:Uk}{K:Nat->GS}{Im:cm}{ic:Nat}{ph:Option Phase}{st:Option dZ}
structure f_ (P:SJ)(n0:Nat)(W0:Tp)(V:View)(gs:Array SH)(w:Tp)(sl:Option (Nat×Nat))(t:Uk)(K:Nat->GS)(Im:cm)(ic:Nat)(ph:Option Phase)(st:Option dZ)(i:Nat):Prop where
 intro::
 as9:∃gs' w' ops K' st',runT P (crowd gs w sl) i=(.next (crowd gs' w' sl),ops)/\gs'.size=gs.size/\Inv P n0 W0 V gs' w' (t++ops) K' Im ic ph st'/\(∀g c,(∀p,ph=some p->p.c=c)->Ho gs gs' w w' g c)/\(∀g c,nw gs g c->Calm gs->Calm gs')/\
  As gs.size ((λj=>(K' j).cT),flag gs' ic) ((λj=>(K j).cT),flag gs ic)
theorem getElem?_next{gi bx:SH}{w':Tp}{i j:Nat}{x:SH}(hlt:i<gs.size)(h:((gs.map (woken P gi bx w')).setIfInBounds i bx)[j]?=some x):(j=i/\x=bx)\/(j≠i/\∃y,gs[j]?=some y/\x=woken P gi bx w' y):=by
 by_cases ce:j=i
 ·subst ce;rw[S_ (by simpa using hlt)]at h;exact .inl ⟨rfl,(VC h).symm⟩
 ·rw[SU (Ne.symm ce),WC]at h;obtain⟨y,hy,rfl⟩:=Tq.1 h;exact .inr ⟨ce,y,hy,rfl⟩
theorem Rest.app{Wg:Nat}{t u:Uk}{K K':Nat->GS}{ic:Nat}{s s':dZ}(h:Rest Wg t K ic (some s))(hold:∀idx a,touchAt t idx=some a->wa Wg t K ic s idx->Wm (t++u) 0 idx\/wa Wg (t++u) K' ic s' idx)
  (vD:∀idx a,t.size<=idx->(∃op∈u,(t++u)[idx]?=some op/\op.act.touch?=some a)->a.loc.isMemory=true->Wm (t++u) 0 idx\/(a.kind=.atomic/\¬(t++u).heard idx)\/wa Wg (t++u) K' ic s' idx):Rest Wg (t++u) K' ic (some s'):=by
 intro idx a ha hm;rcases z_ ha with fQ|⟨hi,hx⟩
 ·obtain⟨op,au,_⟩:=US fQ;rcases h idx a fQ hm with x|⟨x,y⟩|⟨s1,dF,x⟩
  ·exact .inl (x.app u)
  ·exact .inr (.inl ⟨x,λz=>y ((Wq (TG au)).1 z)⟩)
  ·cases dF;exact(hold idx a fQ x).imp id λy=> .inr ⟨s',rfl,y⟩
 ·exact(vD idx a hi hx hm).imp id (λy=>y.imp id λz=>⟨s',rfl,z⟩)
theorem wa.app{Wg:Nat}{t u:Uk}{K K':Nat->GS}{ic idx:Nat}{s:dZ}(cR:idx<t.size)(h:wa Wg t K ic s idx)(hK:∀i,t.g? idx=some i->0<i->(K i).idx.isSome=true->(K' i).idx.isSome=true\/∃r,Rel Wg (t++u) i r/\idx<=r):wa Wg (t++u) K' ic s idx:=by
 cases s with
 |early=>
  obtain⟨i,hg,h0,hx⟩:=h;refine⟨i,by rw[g?_old cR];exact hg,h0,?_⟩;rcases hx with x|x|⟨r,x,y⟩
  ·exact(hK i hg h0 x).imp id .inr
  ·exact .inr (.inl x)
  ·exact .inr (.inr ⟨r,x.app,y⟩)
 |got=>exact Knows.app u h
 |shut p=>exact Before.app u h
end
def rj (ph:Option Phase):Loc->Prop:=match ph with|some p=>qe p.c p.Wg|none=>λ_=>False
def mH (ph:Option Phase)(N ic:Nat)(K:Nat->GS):Nat->Prop:=λi=>match ph with|some p=>iH p N ic K i|none=>False
def Ac (ph:Option Phase):Nat:=match ph with|some p=>p.Wg|none=>0
section
variable {P:SJ}{n0:Nat}{W0:Tp}{V:View}{gs:Array SH}{w w':Tp}{sl:Option (Nat×Nat)}{t:Uk}{K:Nat->GS}{Im:cm}{ic:Nat}{ph:Option Phase}{st st':Option dZ}
def x8 (P:SJ)(n0:Nat)(V:View)(gs:Array SH)(w:Tp)(t:Uk)(K:Nat->GS)(Im:cm)(ic:Nat)(ph:Option Phase)(st:Option dZ):Prop:=match ph with
  |none=>st=none
  |some p=>n0<=p.c/\n0<=p.Wg/\p.c≠p.Wg/\p.c<w.heap.size/\p.Wg<w.heap.size/\p.Ss.length<=4/\
   (∀i,0<i->((K i).view Im).own p.c=none/\(∀o,((K i).view Im).ab p.c o=none)/\((K i).view Im).own p.Wg=none/\(∀o,((K i).view Im).ab p.Wg o=none)/\((K i).mL=true->i=ic))/\
   (∀i i' j,0<i->i<gs.size->0<i'->i'<gs.size->(K i).idx=some j->(K i').idx=some j->i=i')/\
   (∀j S,p.Ss[j]?=some S->S≠[]->∃i,0<i/\i<gs.size/\(K i).idx=some j)/\
   (if p.recv then(V.own p.c=none/\(∀o,V.ab p.c o=none)/\V.own p.Wg=none/\(∀o,V.ab p.Wg o=none))/\0<ic/\ic<gs.size/\(∃s,st=some s/\Mode P p.c p.Wg gs.size w gs t K ic s)
    else V.own p.c=some (.chan 0 #[] false 0 0 false)/\ic=0/\st=some .early/\(∀i,0<i->i<gs.size->(K i).idx.isSome=true\/∃q,K i=.gone q)/\(∀S∈p.Ss,S≠[])/\(sumTo gs.size λi=>(K i).cnt)=p.Ss.length)
def Am (P:SJ)(Im:cm)(ph:Option Phase)(k:GS)(d:Nat)(g:SH):Prop:=match ph with
  |some p=>k.is P p.c p.Wg Im p.Ss d g
  |none=>∃q,k=.gone q/\Y7 P q d g
theorem Inv.mk'(pos:0<gs.size)(k0:K 0=.gone 0)(d0:UQ t 0=V.deaf)(cY:∀i g,0<i->gs[i]?=some g->Am P Im ph (K i) (UQ t i) g)
  (hc:Core (bA V Im K) gs.size w t (rj ph) (mH ph gs.size ic K) ic n0 W0) (hr:Rest (Ac ph) t K ic st) (hp:x8 P n0 V gs w t K Im ic ph st):Inv P n0 W0 V gs w t K Im ic ph st:=by
 cases ph with
 |none=>exact⟨pos,k0,d0,cY,hc,hr,hp⟩
 |some p=>exact⟨pos,k0,d0,cY,hc,hr,hp⟩
theorem Inv.out(h:Inv P n0 W0 V gs w t K Im ic ph st):(∀i g,0<i->gs[i]?=some g->Am P Im ph (K i) (UQ t i) g)/\Core (bA V Im K) gs.size w t (rj ph) (mH ph gs.size ic K) ic n0 W0/\Rest (Ac ph) t K ic st/\x8 P n0 V gs w t K Im ic ph st:=by
 cases ph with
 |none=>exact⟨h.is,h.core,h.rest,h.phase⟩
 |some p=>exact⟨h.is,h.core,h.rest,h.phase⟩
theorem afE{y:SH}(hy:y.status=.blocked->y.offers=none):(y.again w').status=.blocked->(y.again w').offers=none:=by
 obtain⟨f,cs,s,d,o⟩:=y;unfold YW;cases s<;>cases o<;>simp_all
theorem afF{g g' y:SH}(hy:y.status=.blocked->y.offers=none)(hb:(woken P g g' w' y).status=.blocked):(woken P g g' w' y).offers=none:=by
 unfold woken at hb⊢;split
 ·rename_i hh;rw[if_pos hh]at hb;exact afE hy hb
 ·rename_i hh;rw[if_neg hh]at hb;exact hy hb
theorem Inv.aay(h:Inv P n0 W0 V gs w t K Im ic ph st){i:Nat}{gi bx:SH}{es:Array Uq}{k':GS}(hi:0<i)(aL:gs[i]?=some gi)(aP:stepG P false gi w=.go bx w' es)
  (hk:Am P Im ph k' (deafBehind (UQ t i) es) bx) (se:bx.status=.blocked->bx.offers=none) (gn:∀p,ph=some p->(∃n,w'.heap[p.c]?=some (.chan 0 #[] false n n false))\/(∀j,0<j->j<gs.size->j≠i->(K j).idx=none))
  (wY:Core (bA V Im (upd K i k')) gs.size w' (t++Ta i gi.frame.fn gi.frame.place es) (rj ph) (mH ph gs.size ic (upd K i k')) ic n0 W0)
  (k_:Rest (Ac ph) (t++Ta i gi.frame.fn gi.frame.place es) (upd K i k') ic st')
  (B0:x8 P n0 V ((gs.map (woken P gi bx w')).setIfInBounds i bx) w' (t++Ta i gi.frame.fn gi.frame.place es) (upd K i k') Im ic ph st')
  (jj:As gs.size ((λj=>(upd K i k' j).cT),flag ((gs.map (woken P gi bx w')).setIfInBounds i bx) ic) ((λj=>(K j).cT),flag gs ic))
  (oF:∀g c,(∀p,ph=some p->p.c=c)->Ho gs ((gs.map (woken P gi bx w')).setIfInBounds i bx) w w' g c):f_ P n0 W0 V gs w sl t K Im ic ph st i:=by
 have hlt:i<gs.size:=(SR.1 aL).1;have eC:(i==0)=false:=by simp;omega
 have aT:((gs.map (woken P gi bx w')).setIfInBounds i bx).size=gs.size:=by simp
 have B9:∀op∈Ta i gi.frame.fn gi.frame.place es,op.g=i:=λop au=>by obtain⟨e,_,rfl⟩:=TL au;rfl
 refine⟨_,w',_,upd K i k',st',runT_crowd_go (P:=P) (sl:=sl) aL (by rw[eC];exact aP),aT,?_,oF,?_,jj⟩
 rotate_left
 ·intro g c _ hc j x hj hx hb;rcases getElem?_next hlt hx with⟨_,rfl⟩|⟨_,y,hy,rfl⟩
  ·exact se hb
  ·exact afF (hc j y hj hy) hb
 refine Inv.mk' (by rw[aT];exact h.pos) (by rw[aW _ _ (by omega)];exact h.k0) ?_ (λj x hj hx=> ?_) (by rw[aT];exact wY) k_ B0
 ·rw[ate t (g:=0) (g':=i) (by omega) _ B9];exact h.d0
 ·rcases getElem?_next hlt hx with⟨rfl,rfl⟩|⟨ce,y,hy,rfl⟩
  ·rw[bu,Deaf_own];exact hk
  ·rw[aW _ _ ce,ate t (g:=j) (g':=i) (Ne.symm ce) _ B9];have Cf:=h.out.1 j y hj hy;have JV:j<gs.size:=(SR.1 hy).1;cases ph with
   |none=>
    obtain⟨q,hq,oN⟩:=Cf;exact⟨q,hq,by rw[woken_quitsD oN];exact oN⟩
   |some p=>
    refine Sa ?_ Cf;rcases gn p rfl with x|x
    ·exact .inl x
    ·exact .inr (x j hj JV ce)
theorem Inv.next(h:Inv P n0 W0 V gs w t K Im ic ph st){i:Nat}{gi bx:SH}{es:Array Uq}{k':GS}(hi:0<i)(aL:gs[i]?=some gi)(aP:stepG P false gi w=.go bx w' es)
  (hk:Am P Im ph k' (deafBehind (UQ t i) es) bx) (se:bx.status=.blocked->bx.offers=none) (gn:∀p,ph=some p->(∃n,w'.heap[p.c]?=some (.chan 0 #[] false n n false))\/(∀j,0<j->j<gs.size->j≠i->(K j).idx=none))
  (wY:Core (bA V Im (upd K i k')) gs.size w' (t++Ta i gi.frame.fn gi.frame.place es) (rj ph) (mH ph gs.size ic (upd K i k')) ic n0 W0)
  (k_:Rest (Ac ph) (t++Ta i gi.frame.fn gi.frame.place es) (upd K i k') ic st')
  (B0:x8 P n0 V ((gs.map (woken P gi bx w')).setIfInBounds i bx) w' (t++Ta i gi.frame.fn gi.frame.place es) (upd K i k') Im ic ph st')
  (tW:qb k'.cT (K i).cT)
  (oF:∀g c,(∀p,ph=some p->p.c=c)->Ho gs ((gs.map (woken P gi bx w')).setIfInBounds i bx) w w' g c):f_ P n0 W0 V gs w sl t K Im ic ph st i:=
 h.aay hi aL aP hk se gn wY k_ B0 (.inl ⟨i,(SR.1 aL).1,by simpa only[bu]using tW,λj hj=>by show (upd K i k' j).cT=(K j).cT;rw[aW _ _ hj]⟩) oF
theorem amE{B:Nat}{e:Uq}(h:e.mute=true):(Ts e).touch?=none/\(Ts e).low B/\∀a,Ts e≠ .mark (.release a):=by
 refine⟨ZU h,low_mute h B,λa=> ?_⟩;obtain⟨l,wr,sy⟩:=e;cases l with
 |mark m=>cases m<;>cases wr<;>cases sy<;>simp_all[Ts,WF]
 |_=>simp[WF]at h
theorem Mode.keep{c Wg N:Nat}{gs':Array SH}{u:Uk}{K':Nat->GS}{s:dZ}(h:Mode P c Wg N w gs t K ic s)(hs:∀j,(K' j).shape=(K j).shape)(hc:w'.heap[c]?=w.heap[c]?)(hW:w'.heap[Wg]?=w.heap[Wg]?)
  (hr:(∀g,gs[ic]?=some g->g.status=.running)->∀g,gs'[ic]?=some g->g.status=.running):Mode P c Wg N w' gs' (t++u) K' ic s:=by
 have e1:sumTo N (λi=>(K' i).cnt)=sumTo N λi=>(K i).cnt:=Vl λi _=>by rw[<- GS.mM,hs i,GS.mM]
 have e2:sumTo N (λi=>(K' i).late)=sumTo N λi=>(K i).late:=Vl λi _=>by rw[<- GS.lU,hs i,GS.lU]
 have e3:∀st sm,WgAt P Wg w' st sm=WgAt P Wg w st sm:=λst sm=>by unfold WgAt;rw[hW]
 unfold Mode at h⊢;simp only[e1,e2,e3,hs,hc];rcases h with h|h|h|h|h|h|h
 ·exact .inl h
 ·exact .inr (.inl h)
 ·exact .inr (.inr (.inl h))
 ·exact .inr (.inr (.inr (.inl ⟨h.1,h.2.1,h.2.2.1,h.2.2.2.1,h.2.2.2.2.1,hr h.2.2.2.2.2.1,h.2.2.2.2.2.2⟩)))
 ·exact .inr (.inr (.inr (.inr (.inl h))))
 ·exact .inr (.inr (.inr (.inr (.inr (.inl h)))))
 ·obtain⟨⟨p,n,a,b,c',d⟩,e⟩:=h;exact .inr (.inr (.inr (.inr (.inr (.inr ⟨⟨p,n,a,by rw[X7 (Wa b)];exact b,(Wq (Wa b)).2 c',d⟩,e⟩)))))
theorem abu{i:Nat}{gi bx:SH}(hlt:i<gs.size)(hg:bx.status=.running)(h:∀g,gs[ic]?=some g->g.status=.running):∀g,((gs.map (woken P gi bx w')).setIfInBounds i bx)[ic]?=some g->g.status=.running:=by
 intro g JD;rcases getElem?_next hlt JD with⟨_,rfl⟩|⟨_,y,hy,rfl⟩
 ·exact hg
 ·rw[Ym (h y hy)];exact h y hy
theorem GS.R4{k:GS}(h:k.cnt=0):k.idx=none:=by
 cases k<;>first|rfl|(simp[GS.cnt]at h)
theorem Inv.opens(h:Inv P n0 W0 V gs w t K Im ic ph st){p:Phase}(hp:ph=some p):(∃n,w.heap[p.c]?=some (.chan 0 #[] false n n false))\/((∀j,0<j->j<gs.size->(K j).idx=none)/\(∃n,w.heap[p.c]?=some (.chan 0 #[] true n n false))/\p.recv=true):=by
 subst hp;obtain⟨_,hc,_,gp⟩:=h.out;obtain⟨_,_,_,_,_,_,_,_,_,hx⟩:=gp;by_cases hr:p.recv=true
 ·rw[if_pos hr]at hx;obtain⟨_,_,_,s,_,hm⟩:=hx;rcases hm with h|h|h|h|h|h|h
  ·exact .inl h.1
  ·exact .inl h.1
  ·exact .inl h.1
  ·exact .inl h.1
  ·exact .inl h.1
  ·exact .inl h.1
  ·obtain⟨⟨_,n,_,_,_,hn⟩,_,gB,_⟩:=h;refine .inr ⟨λj hj gZ=> ?_,⟨n,hn⟩,hr⟩;have hle:(K j).cnt<=sumTo gs.size λi=>(K i).cnt:=WB (f:=λi=>(K i).cnt) gZ;exact GS.R4 (by omega)
 ·rw[if_neg hr]at hx;have:=(hc.sat 0 h.pos).own p.c _ (by simp only[bA,if_true];exact hx.1);exact .inl ⟨0,this⟩
theorem Inv.slip(h:Inv P n0 W0 V gs w t K Im ic ph st){i:Nat}{gi bx:SH}{es:Array Uq}{k':GS}(hi:0<i)(aL:gs[i]?=some gi)(aP:stepG P false gi w=.go bx w es)(jj:∀e∈es,e.mute=true)
  (hk:Am P Im ph k' (deafBehind (UQ t i) es) bx) (se:bx.status=.blocked->bx.offers=none) (dK:k'.shape=(K i).shape) (lQ:k'.view Im=(K i).view Im) (bF:(K i).shape=.gL 0\/(K i).shape=.said 0->bx.status=.running) (tW:qb k'.cT (K i).cT):f_ P n0 W0 V gs w sl t K Im ic ph st i:=by
 have hlt:i<gs.size:=(SR.1 aL).1;obtain⟨_,hc,hr,hp⟩:=h.out;have cR:∀j,((upd K i k') j).idx=(K j).idx:=λj=>by
  by_cases hj:j=i
  ·subst hj;rw[bu,<- GS.FD,dK,GS.FD]
  ·rw[aW _ _ hj]
 have lc:∀j,((upd K i k') j).shape=(K j).shape:=λj=>by
  by_cases hj:j=i
  ·subst hj;rw[bu,dK]
  ·rw[aW _ _ hj]
 have RQ:∀j,((upd K i k') j).view Im=(K j).view Im:=λj=>by
  by_cases hj:j=i
  ·subst hj;rw[bu,lQ]
  ·rw[aW _ _ hj]
 have ox:∀j,((upd K i k') j).cnt=(K j).cnt:=λj=>by rw[<- GS.mM,lc,GS.mM]
 have vB:∀j,((upd K i k') j).late=(K j).late:=λj=>by rw[<- GS.lU,lc,GS.lU]
 refine h.next (st':=st) hi aL aP hk se (λp y_=>(h.opens y_).imp id λx j a b _=>x.1 j a b) ?_ ?_ ?_ tW ?_
 ·refine((hc.quiet hlt (λe he=>amE (jj e he)) gi.frame.fn gi.frame.place).congr λj hj=> ?_).AK λj hj=> ?_
  ·simp only[bA,RQ]
  ·cases ph with
   |none=>exact hj
   |some p=>simpa only[mH,iH,cR,ox,vB]using hj
 ·cases st with
  |none=>
   intro idx a ha hm;have fQ:=Aa (λop au=>by obtain⟨e,he,rfl⟩:=TL au;exact ZU (jj e he)) ha;obtain⟨op,au,_⟩:=US fQ;rcases hr idx a fQ hm with x|⟨x,y⟩|⟨_,z,_⟩
   ·exact .inl (x.app _)
   ·exact .inr (.inl ⟨x,λz=>y ((Wq (TG au)).1 z)⟩)
   ·cases z
  |some s=>
   refine hr.app (λidx a ha hx=> .inr (hx.app (by obtain⟨op,au,_⟩:=US ha;exact TG au) λj _ _ hj=> .inl (by rw[cR];exact hj))) (λidx a _ ⟨op,au,_,hx⟩ _=> ?_);obtain⟨e,he,rfl⟩:=TL au;rw[ZU (jj e he)]at hx;cases hx
 ·cases ph with
  |none=>exact hp
  |some p=>
   obtain⟨a1,a2,a3,a4,a5,a6,a7,a8,a9,bR⟩:=hp;refine⟨a1,a2,a3,a4,a5,a6,λj hj=>by rw[RQ,<- GS.Oh,lc,GS.Oh];exact a7 j hj,λj j' m b1 b2 b3 b4 b5 b6=>a8 j j' m b1 (by simpa using b2) b3 (by simpa using b4) (by rw[<- cR];exact b5) (by rw[<- cR];exact b6),λj S b1 b2=> ?_,?_⟩
   ·obtain⟨m,c1,c2,c3⟩:=a9 j S b1 b2;exact⟨m,c1,by simpa using c2,by rw[cR];exact c3⟩
   ·split
    ·rename_i aH;rw[if_pos aH]at bR;obtain⟨c1,c2,c3,s,c4,c5⟩:=bR;refine⟨c1,c2,by simpa using c3,s,c4,?_⟩;have aT:((gs.map (woken P gi bx w)).setIfInBounds i bx).size=gs.size:=(by simp);rw[aT];by_cases fE:i=ic/\bx.status≠ .running
     ·
      obtain⟨rfl,qI⟩:=fE;unfold Mode at c5⊢;have e1:sumTo gs.size (λj=>((upd K i k') j).cnt)=sumTo gs.size λj=>(K j).cnt:=Vl λj _=>ox j;have e2:sumTo gs.size (λj=>((upd K i k') j).late)=sumTo gs.size λj=>(K j).late:=Vl λj _=>vB j;simp only[e1,e2,lc];rcases c5 with h|h|h|h|h|h|h
      ·exact .inl h
      ·exact .inr (.inl h)
      ·exact .inr (.inr (.inl h))
      ·exact absurd (bF h.2.2.2.2.2.2.symm) qI
      ·exact .inr (.inr (.inr (.inr (.inl h))))
      ·exact .inr (.inr (.inr (.inr (.inr (.inl h)))))
      ·obtain⟨⟨p,n,a,b,c',d⟩,e⟩:=h;exact .inr (.inr (.inr (.inr (.inr (.inr ⟨⟨p,n,a,by rw[X7 (Wa b)];exact b,(Wq (Wa b)).2 c',d⟩,e⟩)))))
     ·refine c5.keep lc rfl rfl λqL g hg=> ?_;rcases getElem?_next hlt hg with⟨rfl,rfl⟩|⟨_,y,hy,rfl⟩
      ·exact Tu λx=>fE ⟨rfl,x⟩
      ·rw[Ym (qL y hy)];exact qL y hy
    ·rename_i aH;rw[if_neg aH]at bR;refine⟨bR.1,bR.2.1,bR.2.2.1,λj b1 b2=> ?_,bR.2.2.2.2.1,?_⟩
     rotate_left
     ·rw[show ((gs.map (woken P gi bx w)).setIfInBounds i bx).size=gs.size by simp,Vl λj _=>ox j];exact bR.2.2.2.2.2
     rcases bR.2.2.2.1 j b1 (by simpa using b2)with x|⟨q,x⟩
     ·exact .inl (by rw[cR];exact x)
     ·by_cases hj:j=i
      ·subst hj;rw[bu];rw[x]at dK;cases k'<;>simp[GS.shape]at dK;exact .inr ⟨_,rfl⟩
      ·rw[aW _ _ hj];exact .inr ⟨q,x⟩
 ·intro g c _;exact⟨LC hi,λiQ ho=> .inr ⟨LZ hi iQ ho,ho⟩⟩
end
section
variable {P:SJ}{n0:Nat}{W0:Tp}{V:View}{gs:Array SH}{w w':Tp}{sl:Option (Nat×Nat)}{t:Uk}{K:Nat->GS}{Im:cm}{ic:Nat}{p:Phase}{st st':Option dZ}
def ja (p:Phase)(U:View):Prop:=U.own p.c=none/\(∀o,U.ab p.c o=none)/\U.own p.Wg=none/\(∀o,U.ab p.Wg o=none)
theorem ja.step{U U':View}{es:Array Uq}(b:ja p U)(s:cV U w U' w' es)(hc:p.c<w.heap.size)(hW:p.Wg<w.heap.size):ja p U':=by
 have key:∀b,b<w.heap.size->U.own b=none->(∀o,U.ab b o=none)->U'.own b=none/\∀o,U'.ab b o=none:=by
  intro b hb ho hi;refine⟨s.own b hb ho,λo=> ?_⟩;cases e:U'.ab b o with
  |none=>rfl
  |some v=>
   rcases s.j7 b o v e with x|x|x
   ·rw[hi o]at x;cases x
   ·exact absurd ho x
   ·omega
 have k1:=key p.c hc b.1 b.2.1;have k2:=key p.Wg hW b.2.2.1 b.2.2.2;exact⟨k1.1,k1.2,k2.1,k2.2⟩
theorem ja.zx{U:View}(b:ja p U){l:Loc}(h:gw U l):¬qe p.c p.Wg l:=by
 intro hs;cases l with
 |cell a=>
  have e:a.block=p.Wg:=hs;rcases h with h|h
  ·exact h (by rw[e];exact b.2.2.1)
  ·exact h (by rw[e];exact b.2.2.2 _)
 |obj r=>have e:r=p.c:=hs;exact h (by rw[e];exact b.1)
 |_=>exact hs
theorem ja.ghost{U U':View}(b:ja p U)(g:dP U U'):ja p U':=by
 have key:∀b,U.own b=none->(∀o,U.ab b o=none)->U'.own b=none/\∀o,U'.ab b o=none:=by
  intro b ho hi;refine⟨g.own b ho,λo=> ?_⟩;cases e:U'.ab b o with
  |none=>rfl
  |some v=>
   rcases g.j7 b o v e with x|x
   ·rw[hi o]at x;cases x
   ·exact absurd ho x
 have k1:=key p.c b.1 b.2.1;have k2:=key p.Wg b.2.2.1 b.2.2.2;exact⟨k1.1,k1.2,k2.1,k2.2⟩
theorem afk:ja p noView:=⟨rfl,λ_=>rfl,rfl,λ_=>rfl⟩
theorem Inv.blind(h:Inv P n0 W0 V gs w t K Im ic (some p) st){i:Nat}(hi:0<i):ja p ((K i).view Im):=let x:=h.phase.2.2.2.2.2.2.1 i hi;⟨x.1,x.2.1,x.2.2.1,x.2.2.2.1⟩
theorem Inv.rl(h:Inv P n0 W0 V gs w t K Im ic (some p) st){i:Nat}(hi:0<i)(hc:(K i).mL=true):i=ic:=(h.phase.2.2.2.2.2.2.1 i hi).2.2.2.2 hc
theorem Inv.low(h:Inv P n0 W0 V gs w t K Im ic (some p) st):p.c<w.heap.size/\p.Wg<w.heap.size:=⟨h.phase.2.2.2.1,h.phase.2.2.2.2.1⟩
theorem abT(hc:p.c<w.heap.size)(hW:p.Wg<w.heap.size){l:Loc}(h:qe p.c p.Wg l):l.low w.heap.size:=by
 cases l with
 |cell a=>show a.block<_;rw[show a.block=p.Wg from h];exact hW
 |obj r=>show r<_;rw[show r=p.c from h];exact hc
 |_=>exact h.elim
theorem Inv.afR(h:Inv P n0 W0 V gs w t K Im ic (some p) st)(hr:p.recv=true){i:Nat}(hlt:i<gs.size)(hk:(K i).cnt=1):∃s,WgAt P p.Wg w s 0:=by
 obtain⟨_,_,_,_,_,_,_,_,_,hx⟩:=h.phase;rw[if_pos hr]at hx;obtain⟨_,_,_,s,hs,hm⟩:=hx;have hle:(K i).cnt<=sumTo gs.size λi=>(K i).cnt:=WB (f:=λi=>(K i).cnt) hlt;rcases hm with h|h|h|h|h|h|h
 ·exact⟨_,h.2.2.2.2.1⟩
 ·exact⟨_,h.2.2.2.2.2.1⟩
 ·have:=h.2.2.2.1;omega
 ·have:=h.2.2.2.1;omega
 ·have:=h.2.2.2.1;omega
 ·have:=h.2.2.2.1;omega
 ·have:=h.2.2.1;omega
theorem Inv.Ny(h:Inv P n0 W0 V gs w t K Im ic (some p) st)(hr:p.recv=true){n:Nat}(hk:K ic=.acq n\/K ic=.said n):∃x y,WgAt P p.Wg w x y:=by
 obtain⟨_,_,_,_,_,_,_,_,_,hx⟩:=h.phase;rw[if_pos hr]at hx;obtain⟨_,_,_,s,hs,hm⟩:=hx;unfold Mode at hm;rcases hm with h|h|h|h|h|h|h
 ·exact⟨_,_,h.2.2.2.2.1⟩
 ·exact⟨_,_,h.2.2.2.2.2.1⟩
 ·have key:∀N,0<(sumTo N λi=>(K i).late)->∃i,i<N/\(K i).late≠0:=by
   intro N;induction N with
   |zero=>intro h;exact absurd h (by simp[sumTo])
   |succ N ih=>
    intro h;by_cases h0:(K N).late=0
    ·simp only[sumTo,h0]at h;obtain⟨i,hi,hl⟩:=ih (by omega);exact⟨i,by omega,hl⟩
    ·exact⟨N,by omega,h0⟩
  have:=key gs.size (by have:=h.2.2.1;omega);obtain⟨i,hi,hl⟩:=this;cases kz:K i<;>rw[kz]at hl<;>first
   |exact⟨_,_,h.2.2.2.2.2.1 i hi (by rw[kz];exact .inl rfl)⟩
   |exact⟨_,_,h.2.2.2.2.2.1 i hi (by rw[kz];exact .inr rfl)⟩
   |exact⟨_,_,h.2.2.2.2.2.2 i hi (by rw[kz];rfl)⟩
   |exact absurd rfl hl
 ·exact⟨_,_,h.2.2.2.2.1⟩
 ·exact⟨_,_,h.2.2.2.2.1⟩
 ·exfalso;rcases hk with hk|hk<;>rw[hk]at h<;>rcases h.2.2.2.2 with h|h<;>cases h
 ·exfalso;rcases hk with hk|hk<;>rw[hk]at h<;>cases h.2.2.2
theorem Inv.counted(h:Inv P n0 W0 V gs w t K Im ic (some p) st){i:Nat}(_hi:0<i)(hlt:i<gs.size)(hk:(K i).cnt=1):(∃n,w.heap[p.c]?=some (.chan 0 #[] false n n false))/\st=some .early:=by
 have gp:=h.phase;obtain⟨_,_,_,_,_,_,_,_,_,hx⟩:=gp;by_cases hr:p.recv=true
 ·rw[if_pos hr]at hx;obtain⟨_,_,_,s,hs,hm⟩:=hx;have hle:(K i).cnt<=sumTo gs.size λi=>(K i).cnt:=WB (f:=λi=>(K i).cnt) hlt;rcases hm with h|h|h|h|h|h|h
  ·exact⟨h.1,by rw[hs,h.2.1]⟩
  ·exact⟨h.1,by rw[hs,h.2.1]⟩
  ·exact⟨h.1,by rw[hs,h.2.1]⟩
  ·exact⟨h.1,by rw[hs,h.2.1]⟩
  ·exact⟨h.1,by rw[hs,h.2.1]⟩
  ·have:=h.2.2.2.1;omega
  ·have:=h.2.2.1;omega
 ·rw[if_neg hr]at hx;have:=(h.core.sat 0 h.pos).own p.c _ (by simp only[bA,if_true];exact hx.1);exact⟨⟨0,this⟩,hx.2.2.1⟩
theorem Inv.L2(h:Inv P n0 W0 V gs w t K Im ic (some p) st){i:Nat}{k':GS}{gs':Array SH}{t':Uk}(aT:gs'.size=gs.size)(iq:w.heap.size<=w'.heap.size)(hb:ja p (k'.view Im))(wW:k'.mL=true->i=ic)
  (cR:k'.idx=(K i).idx\/(k'.idx=none/\∀j,(K i).idx=some j->p.Ss[j]?=some []))
  (dT:if p.recv then∃s,st'=some s/\Mode P p.c p.Wg gs.size w' gs' t' (upd K i k') ic s
    else st'=some .early/\k'.idx.isSome=true/\k'.cnt=(K i).cnt):x8 P n0 V gs' w' t' (upd K i k') Im ic (some p) st':=by
 obtain⟨a1,a2,a3,a4,a5,a6,a7,a8,a9,bR⟩:=h.phase;have iw:∀j m,((upd K i k') j).idx=some m->(K j).idx=some m:=by
  intro j m hj;by_cases ce:j=i
  ·subst ce;rw[bu]at hj;rcases cR with x|⟨x,_⟩
   ·rw[<- x];exact hj
   ·rw[x]at hj;cases hj
  ·rw[aW _ _ ce]at hj;exact hj
 refine⟨a1,a2,a3,Tc a4 iq,Tc a5 iq,a6,λj hj=> ?_,λj j' m b1 b2 b3 b4 b5 b6=>a8 j j' m b1 (aT▸b2) b3 (aT▸b4) (iw _ _ b5) (iw _ _ b6),λj S b1 b2=> ?_,?_⟩
 ·by_cases ce:j=i
  ·subst ce;rw[bu];exact⟨hb.1,hb.2.1,hb.2.2.1,hb.2.2.2,wW⟩
  ·rw[aW _ _ ce];exact a7 j hj
 ·obtain⟨m,c1,c2,c3⟩:=a9 j S b1 b2;refine⟨m,c1,by rw[aT];exact c2,?_⟩;by_cases cO:m=i
  ·subst cO;rw[bu];rcases cR with x|⟨_,x⟩
   ·rw[x];exact c3
   ·have:=x j c3;rw[this]at b1;cases b1;exact absurd rfl b2
  ·rw[aW _ _ cO];exact c3
 ·split
  ·rename_i aH;rw[if_pos aH]at bR dT;obtain⟨c1,c2,c3,_⟩:=bR;exact⟨c1,c2,by rw[aT];exact c3,by rw[aT];exact dT⟩
  ·rename_i aH;rw[if_neg aH]at bR dT;obtain⟨c1,c2,_,c4,c5⟩:=bR;refine⟨c1,c2,dT.1,λj b1 b2=> ?_,c5.1,by rw[aT,kM K k' GS.cnt dT.2.2];exact c5.2⟩;by_cases ce:j=i
   ·subst ce;rw[bu];exact .inl dT.2.1
   ·rw[aW _ _ ce];exact c4 j b1 (aT▸b2)
theorem Inv.acW(h:Inv P n0 W0 V gs w t K Im ic (some p) st){i j:Nat}{gi bx:SH}{es:Array Uq}{hh h':Ht}{Vi V':View}(hi:0<i)(aL:gs[i]?=some gi)(hK:K i=.work j hh Vi)(aP:stepG P false gi w=.go bx w' es)
  (s:cV Vi w V' w' es) (hk:kR P h' V' bx) (lM:Al h' hh):f_ P n0 W0 V gs w sl t K Im ic (some p) st i:=by
 have hlt:i<gs.size:=(SR.1 aL).1;have cY:=h.is i gi hi aL;simp only[hK,GS.is]at cY;obtain⟨hd,_,S,hS,iR⟩:=cY;have gB:(K i).cnt=1:=by rw[hK];rfl
 obtain⟨⟨n,gn⟩,kH⟩:=h.counted hi hlt gB;have gN:=h.low;have cJ:ja p Vi:=by have:=h.blind hi;rw[hK]at this;exact this
 have ai9:=cJ.step s gN.1 gN.2;have lQ:bA V Im K i=Vi:=by simp[bA,hK,GS.view];omega
 have eJ:w'.heap[p.c]?=w.heap[p.c]?:=s.frame p.c gN.1 cJ.1;have hWh:w'.heap[p.Wg]?=w.heap[p.Wg]?:=s.frame p.Wg gN.2 cJ.2.2.1;have lc:∀m,((upd K i (.work j h' V')) m).shape=(K m).shape:=λm=>by
  by_cases hm:m=i
  ·subst hm;rw[bu,hK];rfl
  ·rw[aW _ _ hm]
 have cR:∀m,((upd K i (.work j h' V')) m).idx=(K m).idx:=λm=>by rw[<- GS.FD,lc,GS.FD]
 have ox:∀m,((upd K i (.work j h' V')) m).cnt=(K m).cnt:=λm=>by rw[<- GS.mM,lc,GS.mM]
 have vB:∀m,((upd K i (.work j h' V')) m).late=(K m).late:=λm=>by rw[<- GS.lU,lc,GS.lU]
 have bX:V'.role=Vi.role:=s.role;refine h.next (k':=.work j h' V') (st':=st) hi aL aP ⟨by rw[hd,s.deaf],hk,S,hS,bX.trans iR⟩ (λx=>by rw[hk.running]at x;cases x) (λq hq=>by cases hq;exact .inl ⟨n,by rw[eJ];exact gn⟩) ?_ ?_ ?_ ?_ ?_
 ·rw[MW V Im K hi];refine(Core.step (V':=V') h.core hlt (by rw[lQ];exact s) (λe he x hx hs=> ?_) gi.frame.fn gi.frame.place).AK λm hm=> ?_
  ·exfalso;rcases(Iq (s.eT e he) hx).1 with y|⟨y,_⟩|y
   ·exact cJ.zx y.rd hs
   ·exact cJ.zx y hs
   ·exact y (abT gN.1 gN.2 hs)
  ·simpa only[mH,iH,cR,ox,vB]using hm
 ·rw[kH];have hr:Rest (Ac (some p)) t K ic st:=h.out.2.2.1;rw[kH]at hr;refine hr.app (λidx a ha hx=> .inr (hx.app (by obtain⟨op,au,_⟩:=US ha;exact TG au) λm _ _ hm=> .inl (by rw[cR];exact hm))) (λidx a _ ⟨op,au,w6,_⟩ _=> .inr (.inr ⟨i,?_,hi,.inl ?_⟩))
  ·obtain⟨e,_,rfl⟩:=TL au;simp[Wz,w6]
  ·rw[bu];rfl
 ·refine h.L2 (by simp) s.size ai9 (λx=>by cases x) (.inl (by rw[hK];rfl)) ?_;have hx:=h.phase.2.2.2.2.2.2.2.2.2;split
  ·rename_i aH;rw[if_pos aH]at hx;obtain⟨_,_,_,s',oJ,hm⟩:=hx;exact⟨s',oJ,hm.keep lc eJ hWh λqL=>abu hlt hk.running qL⟩
  ·exact⟨kH,rfl,by rw[hK];rfl⟩
 ·rw[hK];refine .inr ⟨by simp[GS.cT,bX],.inl lM⟩
 ·intro g c Jr;have ho:x7 w' c:=⟨n,by rw[<- Jr p rfl,eJ];exact gn⟩;exact⟨LC hi,λiQ _=> .inr ⟨LZ hi iQ ho,ho⟩⟩
end
def nf (V:View)(I':cm)(O':Av)(r:mD):View:=
 {V with ab:=λb o=>match V.ab b o with|some x=>some x|none=>I' b o,own:=λb=>match V.own b with|some x=>some x|none=>O' b,role:=r}
def lx (B:Nat->Bool)(U:View):Av:=λb=>if B b then U.own b else none
def ln (B:Nat->Bool)(U:View)(r:mD):View:={U with own:=λb=>if B b then none else U.own b,role:=r}
section
variable {P:SJ}{n0:Nat}{W0:Tp}{V:View}{gs gs':Array SH}{w w':Tp}{sl:Option (Nat×Nat)}{t:Uk}{K:Nat->GS}{Im:cm}{ic:Nat}{p:Phase}{st:Option dZ}
theorem aaS{k:GS}{d:Nat}{x:SH}(h:k.is P p.c p.Wg Im p.Ss d x)(r:Nat):offersAt x r false=[]:=by
 rcases GS.runs h with hr|⟨hf,_⟩|⟨j,h',V,V',g0,v,z,rfl⟩|⟨_,hb,ho⟩
 ·exact UT (by rw[hr];simp) r false
 ·exact UT (by rw[hf];simp) r false
 ·obtain⟨_,_,rfl,_⟩:=h;exact offersAt_parked_send' _ _ _ _ _ _
 ·unfold offersAt;simp[hb,ho]
theorem amo{g:SH}(h:jV gs g){x:SH}(hx:gs[0]?=some x)(r:Nat)(s:Bool):offersAt x r s=[]:=by
 obtain⟨g0,h0,h1,_⟩:=h;rw[h0]at hx;cases hx;exact UT (by rw[h1];simp) r s
theorem Inv.art(h:Inv P n0 W0 V gs w t K Im ic (some p) st){g:SH}(hm:jV gs g){i j:Nat}{gi:SH}{hh h':Ht}{Vi V₁:View}{sp:Spec}{S:List Spec}{v z:SO}{B:Nat->Bool}(hi:0<i)(aL:gs[i]?=some gi)
  (hK:K i=.work j hh Vi) (hg:dP Vi V₁) (hr:V₁.role=.work p.c p.Wg (sp::S)) (hd:V₁.deaf=0) (aP:stepG P false gi w=.comm gi #[scase p.c v z] true .send w #[])
  (xg:sp v V₁.ab (lx B V₁)) (hk:kR P h' (ln B V₁ (.work p.c p.Wg S)) (T4 gi undef)):f_ P n0 W0 V gs w sl t K Im ic (some p) st i:=by
 have hlt:i<gs.size:=(SR.1 aL).1;have cY:=h.is i gi hi aL;simp only[hK,GS.is]at cY;obtain⟨bw,_,S',hS,iR⟩:=cY;have gB:(K i).cnt=1:=by rw[hK];rfl
 obtain⟨⟨n,gn⟩,kH⟩:=h.counted hi hlt gB;have eC:(i==0)=false:=by simp;omega
 have er:mD.work p.c p.Wg S'=.work p.c p.Wg (sp::S):=by rw[<- iR,<- hg.role,hr]
 cases er;let k':GS:=.nk j h' V₁ (ln B V₁ (.work p.c p.Wg S)) gi v z;have hw:=crowd_waits (P:=P) (sl:=sl) (i:=i) aL (by rw[eC];exact aP) (λcc iL=>by
  simp only[TJ,SL,S0,or_false]at iL;subst iL;refine ways_send_none gn (by simp) (partners_nil λm x hx=> ?_);rcases Yb gs i m x hx with⟨_,rfl⟩|⟨_,jl⟩
  ·exact Zo _ _
  ·rcases UX m with rfl|iy
   ·exact amo hm jl _ _
   ·exact aaS (h.is m x iy jl) _)
 have lQ:bA V Im K i=Vi:=by simp[bA,hK,GS.view];omega
 have cJ:ja p Vi:=by have:=h.blind hi;rw[hK]at this;exact this
 have cR:∀m,((upd K i k') m).idx=(K m).idx:=λm=>by
  by_cases hm:m=i
  ·subst hm;rw[bu,hK];rfl
  ·rw[aW _ _ hm]
 have lc:∀m,((upd K i k') m).shape=(K m).shape:=λm=>by
  by_cases hm:m=i
  ·subst hm;rw[bu,hK];rfl
  ·rw[aW _ _ hm]
 have ox:∀m,((upd K i k') m).cnt=(K m).cnt:=λm=>by rw[<- GS.mM,lc,GS.mM]
 have vB:∀m,((upd K i k') m).late=(K m).late:=λm=>by rw[<- GS.lU,lc,GS.lU]
 have e0:t++Ta i gi.frame.fn gi.frame.place #[]=t:=by simp[Ta]
 have aT:(gs.setIfInBounds i (parked gi #[scase p.c v z] .send)).size=gs.size:=by simp
 refine⟨_,w,_,upd K i k',st,hw,aT,?_,λg' c _=>⟨λ⟨g0,a,b⟩=>⟨g0,by rw[SU (by omega)];exact a,b⟩,λ⟨g0,z',a,b⟩ ho=> .inr ⟨⟨g0,z',by rw[SU (by omega)];exact a,b⟩,ho⟩⟩,λg' c ⟨g1,z',a,_⟩ _=>(by obtain⟨g0,h0,h1,_⟩:=hm;rw[a]at h0;cases h0;cases h1),
  .inl ⟨i,hlt,?_,λm hm=>by show (upd K i k' m).cT=(K m).cT;rw[aW _ _ hm]⟩⟩
 ·rw[e0];refine Inv.mk' (by rw[aT];exact h.pos) (by rw[aW _ _ (by omega)];exact h.k0) h.d0 (λm x hm hx=> ?_) ?_ ?_ ?_
  ·by_cases cO:m=i
   ·subst cO;rw[S_ hlt]at hx;cases hx;rw[bu];exact⟨by rw[bw,<- hg.deaf,hd],hd,rfl,hk,sp,S,B,hS,hr,xg,rfl⟩
   ·rw[SU (Ne.symm cO)]at hx;rw[aW _ _ cO];exact h.is m x hm hx
  ·rw[aT,MW V Im K hi];exact(Core.ghost (V':=V₁) h.core hlt (by rw[lQ];exact hg)).AK λm hm=>by simpa only[mH,iH,cR,ox,vB]using hm
  ·have hr:Rest (Ac (some p)) t K ic st:=h.out.2.2.1;rw[kH]at hr⊢;have:=hr.app (u:=#[]) (K':=upd K i k') (s':=.early) (λidx a ha hx=> .inr (hx.app (by obtain⟨op,au,_⟩:=US ha;exact TG au) λm _ _ hm=> .inl (by rw[cR];exact hm))) (λidx a _ ⟨op,au,_⟩ _=>by simp at au);simpa using this
  ·refine h.L2 aT (SQ _) (cJ.ghost hg) (λx=>by cases x) (.inl (by rw[hK];rfl)) ?_;have hx:=h.phase.2.2.2.2.2.2.2.2.2;split
   ·rename_i aH;rw[if_pos aH]at hx;obtain⟨_,fU,_,s',oJ,fG⟩:=hx;refine⟨s',oJ,?_⟩;have:=fG.keep (w':=w) (gs':=gs.setIfInBounds i (parked gi #[scase p.c v z] .send)) (u:=#[]) lc rfl rfl λqL x hx=>by
     by_cases fE:ic=i
     ·subst fE;exfalso;unfold Mode at fG;have aC:∀s:GS,(K ic).shape=s->s=.work j .z noView:=λs e=>(by rw[<- e,hK];rfl);rcases fG with h|h|h|h|h|h|h
      ·rcases h.2.2.2.2.2 with⟨_,e,_⟩|⟨_,e,_⟩<;>cases aC _ e
      ·rcases h.2.2.2.2.2.2 with e|e<;>cases aC _ e
      ·rcases h.2.2.2.2.1 with e|e<;>cases aC _ e
      ·rcases h.2.2.2.2.2.2 with e|e<;>cases aC _ e
      ·rcases h.2.2.2.2.2 with e|e<;>cases aC _ e
      ·rcases h.2.2.2.2 with e|e<;>cases aC _ e
      ·cases aC _ h.2.2.2
     ·rw[SU (Ne.symm fE)]at hx;exact qL x hx
    simpa using this
   ·exact⟨kH,rfl,by rw[hK];rfl⟩
 ·show qb (upd K i k' i).cT (K i).cT;rw[hK];refine .inl ?_;simp only[bu,k',GS.cT,hr,iR];omega
theorem Mode.alo{c Wg N:Nat}{u:Uk}{K':Nat->GS}{s:dZ}(h:Mode P c Wg N w gs t K ic s)(gB:1<=sumTo N λi=>(K i).cnt)(hs:∀j,(K' j).shape=(K j).shape)(ho:∃n,w'.heap[c]?=some (.chan 0 #[] false n n false)) (hW:w'.heap[Wg]?=w.heap[Wg]?):Mode P c Wg N w' gs' (t++u) K' ic s:=by
 have e1:sumTo N (λi=>(K' i).cnt)=sumTo N λi=>(K i).cnt:=Vl λi _=>by rw[<- GS.mM,hs i,GS.mM]
 have e2:sumTo N (λi=>(K' i).late)=sumTo N λi=>(K i).late:=Vl λi _=>by rw[<- GS.lU,hs i,GS.lU]
 have e3:∀st sm,WgAt P Wg w' st sm=WgAt P Wg w st sm:=λst sm=>by unfold WgAt;rw[hW]
 unfold Mode at h⊢;simp only[e1,e2,e3,hs];rcases h with h|h|h|h|h|h|h
 ·exact .inl ⟨ho,h.2⟩
 ·exact .inr (.inl ⟨ho,h.2⟩)
 ·have:=h.2.2.2.1;omega
 ·have:=h.2.2.2.1;omega
 ·have:=h.2.2.2.1;omega
 ·have:=h.2.2.2.1;omega
 ·have:=h.2.2.1;omega
theorem Inv.met(h:Inv P n0 W0 V gs w t K Im ic (some p) st)(aH:p.recv=true)(ij:V.deaf=0){i j:Nat}{h':Ht}{V₁:View}{gi:SH}{sp:Spec}{S:List Spec}{B:Nat->Bool}(hi:0<i)(hlt:i<gs.size)
  (w7:(K i).idx=some j) (hg:dP ((K i).view Im) V₁) (hr:V₁.role=.work p.c p.Wg (sp::S)) (hd:V₁.deaf=0) (nM:UQ t i=0) (hS:p.Ss[j]?=some (sp::S))
  (hk:kR P h' (ln B V₁ (.work p.c p.Wg S)) (T4 gi undef)) (aT:gs'.size=gs.size) (aL:gs'[i]?=some (T4 gi undef)) (hgo:∀m,m≠i->0<m->gs'[m]?=gs[m]?)
  {u:Uk} {x0 x1 x2 x3:Wc} (hu:u=#[x0,x1,x2,x3]) {s:Nat} (h0:x0.g=i/\x0.act=.send p.c s) (h1:x1.g=0/\x1.act=.recv p.c s 0) (h2:x2.g=i/\x2.act=.sendDone p.c s) (h3:x3.g=0/\x3.act=.recvDone p.c s)
  (bQ:w'.heap.size=w.heap.size) (gP:∀b,b≠p.c->w'.heap[b]?=w.heap[b]?) (t_:∃n,w'.heap[p.c]?=some (.chan 0 #[] false n n false)) (Ft:w'.tape=w.tape) (hw5:w'.os=w.os) (hw6:w'.output=w.output):
  (∀b,V.own b≠none->lx B V₁ b=none)/\(∀b o,V.own b≠none->V₁.ab b o≠none->V.ab b o≠none)/\
  Inv P n0 W0 (nf V V₁.ab (lx B V₁) (.recv p.c p.Wg (p.Ss.set j S))) gs' w' (t++u) (upd K i (.work j h' (ln B V₁ (.work p.c p.Wg S)))) Im ic (some {p with Ss:=p.Ss.set j S}) st:=by
 obtain⟨cY,hc,k_,gp⟩:=h.out;obtain⟨a1,a2,a3,a4,a5,a6,a7,a8,a9,bR⟩:=gp;rw[if_pos aH]at bR;obtain⟨⟨c1,c2,c3,c4⟩,c5,c6,s',c7,c8⟩:=bR;have Bv:ja p V:=⟨c1,c2,c3,c4⟩;have ve:=(h.blind hi).ghost hg;have lQ:bA V Im K i=(K i).view Im:=by simp[bA];omega
 have qP:bA V Im K 0=V:=by simp[bA]
 have da:Core (upd (bA V Im K) i V₁) gs.size w t (rj (some p)) (mH (some p) gs.size ic K) ic n0 W0:=hc.ghost hlt (by rw[lQ];exact hg);have dF:Sat V₁ w:=by have:=da.sat i hlt;rwa [bu]at this
 have dE:Sat V w:=by have:=da.sat 0 h.pos;rwa [aW _ _ (by omega),qP]at this
 have DW:jp V V₁:=by have:=da.dD 0 i h.pos hlt (by omega);rwa [aW _ _ (show 0≠i by omega),bu,qP]at this
 have OH:jp V₁ V:=by have:=da.dD i 0 hlt h.pos (by omega);rwa [bu,aW _ _ (show 0≠i by omega),qP]at this
 have ajB:∀b,V.own b≠none->lx B V₁ b=none:=λb hb=>by
  unfold lx;split
  ·exact(DW b hb).1
  ·rfl
 refine⟨ajB,λb o hb=>(DW b hb).2 o,?_⟩;have jj:∀op∈u,op.act.touch?=none/\still op.act/\(op.g=0\/op.g=i)/\op.act.low w.heap.size/\∀a,op.act≠ .mark (.release a):=by
  intro op au;rw[hu]at au;simp only[TJ,SL,S0,or_false]at au;rcases au with rfl|rfl|rfl|rfl
  ·rw[h0.2,h0.1];exact⟨rfl,⟨by simp,by simp⟩,.inr rfl,a4,by simp⟩
  ·rw[h1.2,h1.1];exact⟨rfl,⟨by simp,by simp⟩,.inl rfl,a4,by simp⟩
  ·rw[h2.2,h2.1];exact⟨rfl,⟨by simp,by simp⟩,.inr rfl,a4,by simp⟩
  ·rw[h3.2,h3.1];exact⟨rfl,⟨by simp,by simp⟩,.inl rfl,a4,by simp⟩
 have nb:∀op∈u,still op.act:=λop au=>(jj op au).2.1;have tL:∀m,UQ (t++u) m=UQ t m:=λm=>Deaf_still nb;have d00:UQ t 0=0:=by rw[h.d0,ij]
 have dU:∀idx,Wm t i idx->Wm (t++u) 0 idx:=λidx hx=>amv hu h0 (jj x1 (by rw[hu];simp)).2.1 (jj x2 (by rw[hu];simp)).2.1 h3 nM d00 hx;let k':GS:=.work j h' (ln B V₁ (.work p.c p.Wg S));let V':View:=nf V V₁.ab (lx B V₁) (.recv p.c p.Wg (p.Ss.set j S));have cR:∀m,((upd K i k') m).idx=(K m).idx:=λm=>by
  by_cases hm:m=i
  ·subst hm;rw[bu,w7];rfl
  ·rw[aW _ _ hm]
 have dK:(K i).shape=.work j .z noView:=by
  cases kz:K i<;>rw[kz]at w7<;>simp[GS.idx]at w7
  ·subst w7;rfl
  ·subst w7;rfl
 have lc:∀m,((upd K i k') m).shape=(K m).shape:=λm=>by
  by_cases hm:m=i
  ·subst hm;rw[bu,dK];rfl
  ·rw[aW _ _ hm]
 have ox:∀m,((upd K i k') m).cnt=(K m).cnt:=λm=>by rw[<- GS.mM,lc,GS.mM]
 have vB:∀m,((upd K i k') m).late=(K m).late:=λm=>by rw[<- GS.lU,lc,GS.lU]
 have gB:(K i).cnt=1:=by rw[<- GS.mM,dK];rfl
 have kH:=(h.counted hi hlt gB).2;have ry:bA V' Im (upd K i k') 0=V':=by simp[bA]
 have v6:bA V' Im (upd K i k') i=ln B V₁ (.work p.c p.Wg S):=by simp[bA,bu,k',GS.view];omega
 have v7:∀m,m≠0->m≠i->bA V' Im (upd K i k') m=upd (bA V Im K) i V₁ m:=λm h1 h2=>by simp[bA,aW _ _ h2,h1]
 have CF:upd (bA V Im K) i V₁ 0=V:=by rw[aW _ _ (by omega),qP]
 have vO:upd (bA V Im K) i V₁ i=V₁:=bu _ _ _;have jY:∀{U:View},ja p U->Sat U w->Sat U w':=λ{U} hb hs=>⟨λb o v e=>by
   have aC:b≠p.c:=λx=>(by rw[x,hb.2.1 o]at e;cases e);have:=hs.ab b o v e;simp only[Ux,gP b aC]at this⊢;exact this,λb x e=>by
   have aC:b≠p.c:=λy=>(by rw[y,hb.1]at e;cases e);rw[gP b aC];exact hs.own b x e⟩
 have akJ:Sat V' w:=⟨λb o v e=>by
   simp only[V',nf]at e;split at e
   ·rename_i x hx;cases e;exact dE.ab b o _ hx
   ·exact dF.ab b o v e,λb x e=>by
   simp only[V',nf]at e;split at e
   ·rename_i y hy;cases e;exact dE.own b _ hy
   ·unfold lx at e;split at e
    ·exact dF.own b x e
    ·cases e⟩
 have Bw:ja p V':=⟨by simp[V',nf,c1,lx,ve.1],λo=>by simp[V',nf,c2,ve.2.1],by simp[V',nf,c3,lx,ve.2.2.1],λo=>by simp[V',nf,c4,ve.2.2.2]⟩;have hsK:Sat (ln B V₁ (.work p.c p.Wg S)) w:=⟨dF.ab,λb x e=>by
   simp only[ln]at e;split at e
   ·cases e
   ·exact dF.own b x e⟩
 have Bu:ja p (ln B V₁ (.work p.c p.Wg S)):=⟨by simp[ln,ve.1],ve.2.1,by simp[ln,ve.2.2.1],ve.2.2.2⟩;have zD:∀b,V'.own b≠none->V.own b≠none\/(B b=true/\V₁.own b≠none):=λb hb=>by
  simp only[V',nf]at hb;split at hb
  ·rename_i y hy;exact .inl (by rw[hy];simp)
  ·unfold lx at hb;split at hb
   ·rename_i hB;exact .inr ⟨hB,hb⟩
   ·exact absurd rfl hb
 have ue:∀b o,V'.ab b o≠none<->(V.ab b o≠none\/V₁.ab b o≠none):=λb o=>by
  simp only[V',nf];cases e:V.ab b o with
  |some x=>simp
  |none=>simp
 have zE:∀b,(ln B V₁ (.work p.c p.Wg S)).own b≠none->B b=false/\V₁.own b≠none:=λb hb=>by
  simp only[ln]at hb;split at hb
  ·exact absurd rfl hb
  ·rename_i hB;exact⟨by simpa using hB,hb⟩
 have wY:Core (bA V' Im (upd K i k')) gs.size w' (t++u) (rj (some p)) (mH (some p) gs.size ic K) ic n0 W0:=by
  refine⟨λm hm=> ?_,λa b ha hb fC=> ?_,?_,Ft.trans hc.tape,hw5.trans hc.os,hw6.trans hc.out,λb hb=>(gP b (by omega)).trans (hc.old b hb),λm hm b hb=> ?_,by rw[bQ];exact hc.n0⟩
  ·by_cases iy:m=0
   ·subst iy;rw[ry];exact jY Bw akJ
   ·by_cases cO:m=i
    ·subst cO;rw[v6];exact jY Bu hsK
    ·rw[v7 m iy cO,aW _ _ cO];have:=hc.sat m hm;refine jY ?_ this;have e:bA V Im K m=(K m).view Im:=(by simp[bA,iy]);rw[e];exact h.blind (by omega)
  ·
   have dm:∀m,m<gs.size->m≠0->m≠i->jp (upd (bA V Im K) i V₁ m) V/\jp V (upd (bA V Im K) i V₁ m)/\jp (upd (bA V Im K) i V₁ m) V₁/\jp V₁ (upd (bA V Im K) i V₁ m):=λm hm h1 h2=>
    ⟨by have:=da.dD m 0 hm h.pos h1;rwa [CF]at this,by have:=da.dD 0 m h.pos hm (Ne.symm h1);rwa [CF]at this,by have:=da.dD m i hm hlt h2;rwa [vO]at this,by have:=da.dD i m hlt hm (Ne.symm h2);rwa [vO]at this⟩
   by_cases yJ:a=0
   ·subst yJ;by_cases ik:b=i
    ·subst ik;rw[ry,v6];intro q hq;rcases zD q hq with x|⟨hB,x⟩
     ·refine⟨?_,λo ho=>(ue q o).2 (.inl ((DW q x).2 o ho))⟩;simp only[ln];split
      ·rfl
      ·exact(DW q x).1
     ·refine⟨by simp only[ln,hB,if_true],λo ho=>(ue q o).2 (.inr ho)⟩
    ·have sd:b≠0:=Ne.symm fC;rw[ry,v7 b sd ik];obtain⟨_,e2,_,e4⟩:=dm b hb sd ik;intro q hq;rcases zD q hq with x|⟨_,x⟩
     ·exact⟨(e2 q x).1,λo ho=>(ue q o).2 (.inl ((e2 q x).2 o ho))⟩
     ·exact⟨(e4 q x).1,λo ho=>(ue q o).2 (.inr ((e4 q x).2 o ho))⟩
   ·by_cases mS:a=i
    ·subst mS;by_cases sd:b=0
     ·subst sd;rw[ry,v6];intro q hq;obtain⟨hB,x⟩:=zE q hq;refine⟨?_,λo ho=> ?_⟩
      ·simp only[V',nf,(OH q x).1,lx,hB];rfl
      ·rcases(ue q o).1 ho with y|y
       ·exact(OH q x).2 o y
       ·exact y
     ·rw[v6,v7 b sd (Ne.symm fC)];obtain⟨_,_,_,e4⟩:=dm b hb sd (Ne.symm fC);intro q hq;exact e4 q (zE q hq).2
    ·rw[v7 a yJ mS];obtain⟨e1,e2,e3,e4⟩:=dm a ha yJ mS;by_cases sd:b=0
     ·subst sd;rw[ry];intro q hq;refine⟨?_,λo ho=>((ue q o).1 ho).elim ((e1 q hq).2 o) ((e3 q hq).2 o)⟩;simp only[V',nf,(e1 q hq).1,lx,(e3 q hq).1,ite_self]
     ·by_cases ik:b=i
      ·subst ik;rw[v6];intro q hq;refine⟨?_,(e3 q hq).2⟩;simp only[ln,(e3 q hq).1,ite_self]
      ·rw[v7 b sd ik];exact da.dD a b ha hb fC
  ·rw[bQ];refine da.ti.mute (λop au=>(jj op au).1) (λop au=>(jj op au).2.2.2.1) (λop au=>((jj op au).2.2.1).elim (λx=>by rw[x];exact h.pos) (λx=>by rw[x];exact hlt)) (SQ _) (λop au=>(jj op au).2.2.2.2) (λm hm l hl idx a ha gk qT=> ?_) (λm hm l hl idx a ha gk=> ?_) (λidx a ha dK=>⟨λhp m hm=>((da.ti.sp idx a ha dK).1 hp m hm).app u,λhp=>((da.ti.sp idx a ha dK).2 hp).app u⟩)
   ·obtain⟨_,cG,mX⟩:=hl;by_cases iy:m=0
    ·subst iy;rw[ry]at cG;have:gw V l\/gw V₁ l:=by
      cases l with
      |cell a'=>
       rcases cG with x|x
       ·exact(zD _ x).imp .inl (λy=> .inl y.2)
       ·exact((ue _ _).1 x).imp .inr .inr
      |obj r=>exact(zD _ cG).imp id (λy=>y.2)
      |_=>exact cG.elim
     rcases this with x|x
     ·exact(da.ti.kr 0 h.pos l ⟨h.pos,by rw[CF];exact x,mX⟩ idx a ha gk qT).app u
     ·exact dU idx (da.ti.kr i hlt l ⟨hlt,by rw[vO];exact x,mX⟩ idx a ha gk qT)
    ·by_cases cO:m=i
     ·subst cO;rw[v6]at cG;have:gw V₁ l:=by
       cases l with
       |cell a'=>exact cG.imp (λx=>(zE _ x).2) id
       |obj r=>exact(zE _ cG).2
       |_=>exact cG.elim
      exact(da.ti.kr m hm l ⟨hm,by rw[vO];exact this,mX⟩ idx a ha gk qT).app u
     ·rw[v7 m iy cO]at cG;exact(da.ti.kr m hm l ⟨hm,cG,mX⟩ idx a ha gk qT).app u
   ·obtain⟨_,cG,mX⟩:=hl;by_cases iy:m=0
    ·subst iy;rw[ry]at cG;have:jq V l\/jq V₁ l:=by
      cases l with
      |cell a'=>
       have fD:V.ab a'.block a'.off=none:=by
        cases e:V.ab a'.block a'.off with
        |none=>rfl
        |some x=>exact absurd cG.2 ((ue _ _).2 (.inl (by rw[e];simp)))
       have tO:V₁.ab a'.block a'.off=none:=by
        cases e:V₁.ab a'.block a'.off with
        |none=>rfl
        |some x=>exact absurd cG.2 ((ue _ _).2 (.inr (by rw[e];simp)))
       exact(zD _ cG.1).imp (λx=>⟨x,fD⟩) (λx=>⟨x.2,tO⟩)
      |obj r=>exact(zD _ cG).imp id (λy=>y.2)
      |_=>exact cG.elim
     rcases this with x|x
     ·exact(da.ti.kw 0 h.pos l ⟨h.pos,by rw[CF];exact x,mX⟩ idx a ha gk).app u
     ·exact dU idx (da.ti.kw i hlt l ⟨hlt,by rw[vO];exact x,mX⟩ idx a ha gk)
    ·by_cases cO:m=i
     ·subst cO;rw[v6]at cG;have:jq V₁ l:=by
       cases l with
       |cell a'=>exact⟨(zE _ cG.1).2,cG.2⟩
       |obj r=>exact(zE _ cG).2
       |_=>exact cG.elim
      exact(da.ti.kw m hm l ⟨hm,by rw[vO];exact this,mX⟩ idx a ha gk).app u
     ·rw[v7 m iy cO]at cG;exact(da.ti.kw m hm l ⟨hm,cG,mX⟩ idx a ha gk).app u
  ·by_cases iy:m=0
   ·subst iy;rw[ry];have e1:=da.iU 0 h.pos b hb;have e2:=da.iU i hlt b hb;rw[CF]at e1;rw[vO]at e2;simp[V',nf,e1,lx,e2]
   ·by_cases cO:m=i
    ·subst cO;rw[v6];have e2:=da.iU m hm b hb;rw[vO]at e2;simp[ln,e2]
    ·rw[v7 m iy cO];exact da.iU m hm b hb
 refine Inv.mk' (by rw[aT];exact h.pos) (by rw[aW _ _ (by omega)];exact h.k0) (by rw[tL];exact h.d0) (λm x hm hx=> ?_) ?_ ?_ ?_
 ·show (upd K i k' m).is P p.c p.Wg Im (p.Ss.set j S) (UQ (t++u) m) x;rw[tL];by_cases cO:m=i
  ·subst cO;rw[aL]at hx;cases hx;rw[bu];have eV:j<p.Ss.length:=(SN.1 hS).1;exact⟨by rw[nM];exact hd.symm,hk,S,by simp[W9 eV],rfl⟩
  ·rw[hgo m cO hm]at hx;rw[aW _ _ cO];have zp:=cY m x hm hx;have BR:m<gs.size:=(SR.1 hx).1;have aC:(K m).idx≠some j:=λe=>cO (a8 m i j hm BR hi hlt e w7);cases I9:K m with
   |work j2 h2 V2=>
    rw[I9]at zp aC;obtain⟨b1,b2,S2,b3,b4⟩:=zp;exact⟨b1,b2,S2,by rw[T5 (λe=>aC (by rw[e];rfl))];exact b3,b4⟩
   |nk j2 h2 V2 V3 g2 v2 z2=>
    rw[I9]at zp aC;obtain⟨b1,b2,b3,b4,sp2,S2,B2,b5,b6⟩:=zp;exact⟨b1,b2,b3,b4,sp2,S2,B2,by rw[T5 (λe=>aC (by rw[e];rfl))];exact b5,b6⟩
   |_=>rw[I9]at zp;exact zp
 ·rw[aT];refine wY.AK λm hm=> ?_;have fG:iH p gs.size ic (upd K i k') m:=hm;show iH p gs.size ic K m;unfold iH at fG⊢;rw[cR,ox,vB]at fG;exact fG
 ·show Rest p.Wg (t++u) (upd K i k') ic st;have tV:Rest p.Wg t K ic st:=k_;rw[kH]at tV⊢;exact tV.app (λidx a ha hx=> .inr (hx.app (by obtain⟨op,au,_⟩:=US ha;exact TG au) λm _ _ hm=> .inl (by rw[cR];exact hm))) (λidx a _ ⟨op,au,_,hx⟩ _=>by rw[(jj op au).1]at hx;cases hx)
 ·refine⟨a1,a2,a3,by rw[bQ];exact a4,by rw[bQ];exact a5,by simpa using a6,λm hm=> ?_,λm m' q b1 b2 b3 b4 b5 b6=>a8 m m' q b1 (aT▸b2) b3 (aT▸b4) (by rw[<- cR];exact b5) (by rw[<- cR];exact b6),λq S2 b1 b2=> ?_,?_⟩
  ·by_cases cO:m=i
   ·subst cO;rw[bu];exact⟨Bu.1,Bu.2.1,Bu.2.2.1,Bu.2.2.2,λx=>by cases x⟩
   ·rw[aW _ _ cO];exact a7 m hm
  ·rw[aT];by_cases hq:q=j
   ·subst hq;exact⟨i,hi,hlt,by rw[cR];exact w7⟩
   ·have HL:p.Ss[q]?=some S2:=by
     have:=b1;rwa [show ({p with Ss:=p.Ss.set j S}:Phase).Ss=p.Ss.set j S from rfl,T5 (Ne.symm hq)]at this
    obtain⟨m,e1,e2,e3⟩:=a9 q S2 HL b2;exact⟨m,e1,e2,by rw[cR];exact e3⟩
  ·show if p.recv=true then _ else _;rw[if_pos aH];refine⟨⟨Bw.1,Bw.2.1,Bw.2.2.1,Bw.2.2.2⟩,c5,by rw[aT];exact c6,s',c7,?_⟩;have hle:(K i).cnt<=sumTo gs.size λi=>(K i).cnt:=WB (f:=λi=>(K i).cnt) hlt;rw[aT];exact c8.alo (by omega) lc t_ (gP _ (Ne.symm a3))
end
section
variable {P:SJ}{n0:Nat}{W0:Tp}{V:View}{gs gs':Array SH}{w w':Tp}{sl:Option (Nat×Nat)}{t:Uk}{K:Nat->GS}{Im:cm}{ic:Nat}{p:Phase}{st st':Option dZ}
theorem Inv.sM(h:Inv P n0 W0 V gs w t K Im ic (some p) st)(aH:p.recv=true){i:Nat}{gi bx:SH}{es:Array Uq}{k':GS}{s':dZ}(hi:0<i)(aL:gs[i]?=some gi)(aP:stepG P false gi w=.go bx w' es)
  (hk:k'.is P p.c p.Wg Im p.Ss (deafBehind (UQ t i) es) bx) (py:l8 (k'.view Im) ((K i).view Im))
  (wW:k'.mL=true->i=ic) (cR:k'.idx=none) (w6:∀j,(K i).idx=some j->p.Ss[j]?=some []/\∃r,Rel p.Wg (t++Ta i gi.frame.fn gi.frame.place es) i r/\t.size<=r)
  (jL:i=ic\/(K i).idx.isSome=true\/(K i).cnt=1\/(K i).late=1)
  (cj:∀e∈es,∀x,(Ts e).touch?=some x->(qe p.c p.Wg x.loc/\x.kind=.atomic)\/(qe p.c p.Wg x.loc/\x.kind=.said/\i=ic)\/(¬qe p.c p.Wg x.loc/\gw ((K i).view Im) x.loc/\x.write=false))
  (gN:∀e∈es,(Ts e).low w.heap.size) (qI:∀e∈es,∀a,Ts e≠ .mark (.release a))
  (aT:w'.heap.size=w.heap.size) (jh:∀b,b≠p.c->b≠p.Wg->w'.heap[b]?=w.heap[b]?) (ht:w'.tape=w.tape) (ho:w'.os=w.os) (hu:w'.output=w.output)
  (xb:Mode P p.c p.Wg gs.size w' ((gs.map (woken P gi bx w')).setIfInBounds i bx) (t++Ta i gi.frame.fn gi.frame.place es) (upd K i k') ic s')
  (gn:(∃n,w'.heap[p.c]?=some (.chan 0 #[] false n n false))\/((∀j,0<j->j<gs.size->j≠i->(K j).idx=none)/\∀g,nw gs g p.c->jV ((gs.map (woken P gi bx w')).setIfInBounds i bx) g))
  (k_:Rest p.Wg (t++Ta i gi.frame.fn gi.frame.place es) (upd K i k') ic (some s'))
  (jj:As gs.size ((λj=>(upd K i k' j).cT),flag ((gs.map (woken P gi bx w')).setIfInBounds i bx) ic) ((λj=>(K j).cT),flag gs ic)):f_ P n0 W0 V gs w sl t K Im ic (some p) st i:=by
 have hlt:i<gs.size:=(SR.1 aL).1;obtain⟨_,hc,_,hp⟩:=h.out;obtain⟨a1,a2,a3,a4,a5,a6,a7,a8,a9,bR⟩:=hp;rw[if_pos aH]at bR;obtain⟨c1,c2,c3,_⟩:=bR;have pH:bA V Im K i=(K i).view Im:=by simp[bA];omega
 have Bv:∀j,j<gs.size->ja p (bA V Im K j):=λj _=>by
  by_cases hj:j=0
  ·subst hj;rw[show bA V Im K 0=V by simp[bA]];exact⟨c1.1,c1.2.1,c1.2.2.1,c1.2.2.2⟩
  ·simp only[bA,hj,if_false];exact h.blind (by omega)
 have Qd:mH (some p) gs.size ic K i:=by
  show iH p gs.size ic K i;unfold iH;rw[if_pos aH];exact⟨hi,hlt,by rcases jL with x|x|x|x;exact .inr (.inl x);exact .inl x;exact .inr (.inr (.inl x));exact .inr (.inr (.inr x))⟩
 refine h.aay (st':=some s') hi aL aP hk (λhb=> ?_) (λq hq=>by cases hq;exact gn.imp id And.left) ?_ k_ ?_ jj ?_
 ·rcases GS.runs hk with x|⟨x,_⟩|⟨_,_,_,_,_,_,_,e⟩|⟨_,_,x⟩
  ·rw[x]at hb;cases hb
  ·rw[x]at hb;cases hb
  ·rw[e]at cR;cases cR
  ·exact x
 ·rw[MW V Im K hi];have dK:=hc.sM hlt (es:=es) (w':=w') (λe he x hx=>by
    rcases cj e he x hx with⟨x1,x2⟩|⟨x1,x2,x3⟩|⟨x1,x2,x3⟩
    ·exact .inl ⟨x1,x2,Qd⟩
    ·exact .inr (.inl ⟨x1,x2,x3,Qd⟩)
    ·exact .inr (.inr ⟨x1,.inr (.inl ⟨⟨hlt,by rw[pH];exact x2,x1⟩,x3⟩)⟩)) gN qI (λb=>b=p.c\/b=p.Wg)
   (λb hb=>by
    rcases hb with rfl|rfl
    ·exact⟨a1,λj hj=>⟨(Bv j hj).1,(Bv j hj).2.1⟩⟩
    ·exact⟨a2,λj hj=>⟨(Bv j hj).2.2.1,(Bv j hj).2.2.2⟩⟩) aT (λb hb=>jh b (λx=>hb (.inl x)) (λx=>hb (.inr x))) ht ho hu gi.frame.fn gi.frame.place
  refine(dK.less (V':=k'.view Im) hlt (by rw[pH];exact py)).AK λm hm=> ?_;have fG:iH p gs.size ic (upd K i k') m:=hm;show iH p gs.size ic K m;unfold iH at fG⊢;rw[if_pos aH]at fG⊢;by_cases cO:m=i
  ·subst cO;exact⟨hi,hlt,by rcases jL with x|x|x|x;exact .inr (.inl x);exact .inl x;exact .inr (.inr (.inl x));exact .inr (.inr (.inr x))⟩
  ·rw[aW _ _ cO]at fG;exact fG
 ·refine h.L2 (by simp) (by omega) ?_ wW (.inr ⟨cR,λj hj=>(w6 j hj).1⟩) ?_
  ·have hb:=h.blind hi;exact⟨(py.1 _).elim id (λx=>x.trans hb.1),λo=>(py.2.1 _ o).elim id (λx=>x.trans (hb.2.1 o)),(py.1 _).elim id (λx=>x.trans hb.2.2.1),λo=>(py.2.1 _ o).elim id (λx=>x.trans (hb.2.2.2 o))⟩
  ·rw[if_pos aH];exact⟨s',rfl,xb⟩
 ·intro g c Jr;refine⟨LC hi,λiQ _=> ?_⟩;rw[<- Jr p rfl]at iQ⊢;rcases gn with x|⟨_,x⟩
  ·exact .inr ⟨LZ hi iQ x,x⟩
  ·exact .inl (x g iQ)
theorem Mode.aln{c Wg N:Nat}{u:Uk}{K':Nat->GS}{s:dZ}(h:Mode P c Wg N w gs t K ic s)(e1:sumTo N (λi=>(K' i).cnt)=sumTo N λi=>(K i).cnt)(e2:sumTo N (λi=>(K' i).late)=sumTo N λi=>(K i).late)
  (e4:(K' ic).shape=(K ic).shape) (e5:∀i,i<N->((K' i).shape=.load 0\/(K' i).shape=.store 0)->((K i).shape=.load 0\/(K i).shape=.store 0)) (e6:∀i,i<N->(K' i).shape=.lX 0->(K i).shape=.lX 0) (hc:w'.heap[c]?=w.heap[c]?) (hW:w'.heap[Wg]?=w.heap[Wg]?)
  (hr:(∀g,gs[ic]?=some g->g.status=.running)->∀g,gs'[ic]?=some g->g.status=.running):Mode P c Wg N w' gs' (t++u) K' ic s:=by
 have e3:∀st sm,WgAt P Wg w' st sm=WgAt P Wg w st sm:=λst sm=>by unfold WgAt;rw[hW]
 unfold Mode at h⊢;simp only[e1,e2,e3,e4,hc];rcases h with h|h|h|h|h|h|h
 ·exact .inl h
 ·exact .inr (.inl h)
 ·exact .inr (.inr (.inl ⟨h.1,h.2.1,h.2.2.1,h.2.2.2.1,h.2.2.2.2.1,λi hi x=>h.2.2.2.2.2.1 i hi (e5 i hi x),λi hi x=>h.2.2.2.2.2.2 i hi (e6 i hi x)⟩))
 ·exact .inr (.inr (.inr (.inl ⟨h.1,h.2.1,h.2.2.1,h.2.2.2.1,h.2.2.2.2.1,hr h.2.2.2.2.2.1,h.2.2.2.2.2.2⟩)))
 ·exact .inr (.inr (.inr (.inr (.inl h))))
 ·exact .inr (.inr (.inr (.inr (.inr (.inl h)))))
 ·obtain⟨⟨p,n,a,b,c',d⟩,e⟩:=h;exact .inr (.inr (.inr (.inr (.inr (.inr ⟨⟨p,n,a,by rw[X7 (Wa b)];exact b,(Wq (Wa b)).2 c',d⟩,e⟩)))))
theorem Mode.waits{c Wg N:Nat}{s:dZ}(h:Mode P c Wg N w gs t K ic s):(K ic).cnt=0/\(K ic).late=0:=by
 rw[<- GS.mM,<- GS.lU];rcases h with h|h|h|h|h|h|h
 ·rcases h.2.2.2.2.2 with⟨_,e,_⟩|⟨_,e,_⟩<;>rw[e]<;>exact⟨rfl,rfl⟩
 ·rcases h.2.2.2.2.2.2 with e|e<;>rw[e]<;>exact⟨rfl,rfl⟩
 ·rcases h.2.2.2.2.1 with e|e<;>rw[e]<;>exact⟨rfl,rfl⟩
 ·rcases h.2.2.2.2.2.2 with e|e<;>rw[e]<;>exact⟨rfl,rfl⟩
 ·rcases h.2.2.2.2.2 with e|e<;>rw[e]<;>exact⟨rfl,rfl⟩
 ·rcases h.2.2.2.2 with e|e<;>rw[e]<;>exact⟨rfl,rfl⟩
 ·rw[h.2.2.2];exact⟨rfl,rfl⟩
theorem xz{i:Nat}{k':GS}{a b:Nat}(hlt:i<gs.size)(hr:qb k'.cT (K i).cT):As gs.size ((λj=>(upd K i k' j).cT),a) ((λj=>(K j).cT),b):=
 .inl ⟨i,hlt,by simpa only[bu]using hr,λj hj=>by show (upd K i k' j).cT=(K j).cT;rw[aW _ _ hj]⟩
theorem Inv.mode(h:Inv P n0 W0 V gs w t K Im ic (some p) st)(aH:p.recv=true):∃s,st=some s/\0<ic/\ic<gs.size/\Mode P p.c p.Wg gs.size w gs t K ic s:=by
 have hx:=h.phase.2.2.2.2.2.2.2.2.2;rw[if_pos aH]at hx;obtain⟨_,h1,h2,s,h3,h4⟩:=hx;exact⟨s,h3,h1,h2,h4⟩
theorem ofEvents_one{i:Nat}{fn:TO}{pos:String}{e:Uq}:Ta i fn pos #[e]=#[{g:=i,fn,pos,act:=.ofEvent e}]:=by simp[Ta]
theorem Oo{t u:Uk}{g:Nat}:(t++u).deaf g t.size=UQ t g:=deaf_old (SQ _)
theorem FO(U:View):l8 noView U:=⟨λ_=> .inl rfl,λ_ _=> .inl rfl,λb hb=>absurd rfl hb⟩
theorem Inv.release(h:Inv P n0 W0 V gs w t K Im ic (some p) st)(aH:p.recv=true){i j:Nat}{gi:SH}{hh:Ht}{Vi V₁:View}{c Wg:Nat}(hi:0<i)(aL:gs[i]?=some gi)(hK:K i=.work j hh Vi)(hg:dP Vi V₁)
  (hr:V₁.role=.work c Wg []) (hd:V₁.deaf=0) (hf:Dl P Wg gi):f_ P n0 W0 V gs w sl t K Im ic (some p) st i:=by
 have hlt:i<gs.size:=(SR.1 aL).1;have cY:=h.is i gi hi aL;simp only[hK,GS.is]at cY;obtain⟨bw,_,S,hS,iR⟩:=cY;rw[hg.role,iR]at hr;cases hr;have gB:(K i).cnt=1:=by rw[hK];rfl
 obtain⟨⟨n,gn⟩,kH⟩:=h.counted hi hlt gB;obtain⟨s,hs,fU,iu,hm⟩:=h.mode aH;rw[kH]at hs;cases hs;obtain⟨bF,g',kI,m,dG⟩:=hf;have aC:i≠ic:=λe=>by have:=(Mode.waits hm).1;rw[<- e,gB]at this;cases this
 have bh:UQ t i=0:=by rw[bw,<- hg.deaf,hd]
 have qK:Rel p.Wg (t++Ta i gi.frame.fn gi.frame.place #[jI (.releaseMerge (dO p.Wg))]) i t.size:=by
  rw[ofEvents_one];have e:(#[({g:=i,fn:=gi.frame.fn,pos:=gi.frame.place,act:=.ofEvent (jI (.releaseMerge (dO p.Wg)))}:Wc)]:Uk)[0]?=some _:=rfl;have g0:=qt (t:=t) e;exact⟨af' g0,by simp[Wz,g0],heard_new e rfl (by rw[show t.size+0=t.size from rfl,Oo];exact bh)⟩
 have m8:∀e∈#[jI (.releaseMerge (dO p.Wg))],e=jI (.releaseMerge (dO p.Wg)):=λe he=>by simpa using he
 refine h.sM aH (k':=.add m) (s':=.early) hi aL (kI w) ?_ (by rw[hK];exact FO _) (λx=>by cases x) rfl (λj' gY=> ?_) (.inr (.inr (.inl gB))) (λe he x hx=> ?_) (λe he=> ?_) (λe he a=> ?_) rfl (λ_ _ _=>rfl) rfl rfl rfl ?_ (.inl ⟨n,gn⟩) ?_ (xz hlt ?_)
 ·show cL P (Aj P p.Wg) m _ g';rw[bh];exact dG
 ·rw[hK]at gY;cases gY;exact⟨hS,t.size,qK,SQ _⟩
 ·rw[m8 e he]at hx;cases hx
 ·rw[m8 e he];exact h.low.2
 ·rw[m8 e he];simp[jI,Ts]
 ·refine hm.aln (kM K _ GS.cnt (by rw[gB];rfl)) (kM K _ GS.late (by rw[hK];rfl)) (by rw[aW _ _ (Ne.symm aC)]) (λm hm=> ?_) (λm hm=> ?_) rfl rfl (abu hlt ?_)
  ·by_cases cO:m=i
   ·subst cO;rw[bu];intro x;rcases x with x|x<;>cases x
   ·rw[aW _ _ cO];exact id
  ·by_cases cO:m=i
   ·subst cO;rw[bu];intro x;cases x
   ·rw[aW _ _ cO];exact id
  ·exact cL.running (λd g x=>x.2.1) dG
 ·have hr:Rest p.Wg t K ic st:=h.out.2.2.1;rw[kH]at hr;refine hr.app (λidx a ha hx=> .inr (hx.app (by obtain⟨op,au,_⟩:=US ha;exact TG au) λm vv _ hm=> ?_)) (λidx a _ ⟨op,au,_,hx⟩ _=> ?_)
  ·by_cases cO:m=i
   ·subst cO;exact .inr ⟨t.size,qK,by obtain⟨op,au,_⟩:=US ha;exact Nat.le_of_lt (TG au)⟩
   ·rw[aW _ _ cO];exact .inl hm
  ·rw[ofEvents_one]at au;simp only[TJ,SL,S0,or_false]at au;subst au;cases hx
 ·rw[hK];refine .inl ?_;simp only[GS.cT,iR];omega
def Atom (a:U2)(es:Array Uq):Prop:=es=#[iJ a]\/es=#[ky a]\/es=#[iJ a,ky a]\/es=zU a
theorem Atom.mem{a:U2}{es:Array Uq}(h:Atom a es){e:Uq}(he:e∈es):e=iJ a\/e=ky a\/e=jI .disable\/e=jI .enable:=by
 rcases h with rfl|rfl|rfl|rfl<;>simp only[zU,TJ,SL,S0,or_false]at he
 ·exact .inl he
 ·exact .inr (.inl he)
 ·exact he.imp id .inl
 ·rcases he with x|x|x|x
  ·exact .inr (.inr (.inl x))
  ·exact .inl x
  ·exact .inr (.inl x)
  ·exact .inr (.inr (.inr x))
theorem Atom.behind{a:U2}{es:Array Uq}(h:Atom a es):deafBehind 1 es=1:=by
 rcases h with rfl|rfl|rfl|rfl<;>rfl
theorem Atom.touch{a:U2}{es:Array Uq}(h:Atom a es){e:Uq}(he:e∈es){x:YM}(hx:(Ts e).touch?=some x):x.loc=.cell a/\x.kind=.atomic:=by
 rcases h.mem he with rfl|rfl|rfl|rfl
 ·cases hx;exact⟨rfl,rfl⟩
 ·cases hx;exact⟨rfl,rfl⟩
 ·cases hx
 ·cases hx
theorem Atom.low{a:U2}{es:Array Uq}(h:Atom a es){n:Nat}(ha:a.block<n){e:Uq}(he:e∈es):(Ts e).low n:=by
 rcases h.mem he with rfl|rfl|rfl|rfl
 ·exact ha
 ·exact ha
 ·trivial
 ·trivial
theorem Atom.norel{a:U2}{es:Array Uq}(h:Atom a es){e:Uq}(he:e∈es)(b:U2):Ts e≠ .mark (.release b):=by
 rcases h.mem he with rfl|rfl|rfl|rfl<;>simp[iJ,ky,jI,Ts]
theorem Atom.are{a:U2}{es:Array Uq}(h:Atom a es){i:Nat}{fn:TO}{pos:String}(hd:UQ t i=1){idx:Nat}{op:Wc}{x:YM}(cR:t.size<=idx)(au:(t++Ta i fn pos es)[idx]?=some op)(hx:op.act.touch?=some x):
  ¬(t++Ta i fn pos es).heard idx:=by
 obtain⟨k,rfl⟩:∃k,idx=t.size+k:=⟨idx-t.size,by omega⟩;have sr:(Ta i fn pos es)[k]?=some op:=by rw[X8 (by omega)]at au;simpa using au
 have aL:op.g=i:=by obtain⟨e,_,rfl⟩:=TL (XT sr);rfl
 rintro⟨g,hg,hz⟩
 have:g=i:=by simp[Wz,au,aL]at hg;exact hg.symm
 subst this;have zZ:∀y:Wc,y.act=Ts (iJ a)\/y.act=Ts (ky a)->still y.act:=λy hy=>by rcases hy with e|e<;>rw[e]<;>exact⟨by simp[iJ,ky,Ts],by simp[iJ,ky,Ts]⟩
 rcases h with rfl|rfl|rfl|rfl
 ·have:=tp (t:=t) (u:=Ta g fn pos #[iJ a]) (g:=g) (λop au=>by obtain⟨e,he,rfl⟩:=TL au;simp only[TJ,SL,S0,or_false]at he;subst he;exact zZ _ (.inl rfl)) (k:=k) (by have:=TG sr;omega);omega
 ·have:=tp (t:=t) (u:=Ta g fn pos #[ky a]) (g:=g) (λop au=>by obtain⟨e,he,rfl⟩:=TL au;simp only[TJ,SL,S0,or_false]at he;subst he;exact zZ _ (.inr rfl)) (k:=k) (by have:=TG sr;omega);omega
 ·have:=tp (t:=t) (u:=Ta g fn pos #[iJ a,ky a]) (g:=g) (λop au=>by obtain⟨e,he,rfl⟩:=TL au;simp only[TJ,SL,S0,or_false]at he;rcases he with rfl|rfl;exact zZ _ (.inl rfl);exact zZ _ (.inr rfl)) (k:=k) (by have:=TG sr;omega);omega
 ·
  have eu:Ta g fn pos (zU a)=#[{g,fn,pos,act:=.mark .disable},{g,fn,pos,act:=.ofEvent (iJ a)},{g,fn,pos,act:=.ofEvent (ky a)},{g,fn,pos,act:=.mark .enable}]:=by simp[Ta,zU,jI,Ts]
  rw[eu]at sr hz;have d0:(t++#[({g,fn,pos,act:=.mark .disable}:Wc),{g,fn,pos,act:=.ofEvent (iJ a)},{g,fn,pos,act:=.ofEvent (ky a)},{g,fn,pos,act:=.mark .enable}]).deaf g t.size=1:=by rw[Oo];exact hd
  have d1:=aa' (g:=g) (qt (t:=t) (show (#[({g,fn,pos,act:=.mark .disable}:Wc),{g,fn,pos,act:=.ofEvent (iJ a)},{g,fn,pos,act:=.ofEvent (ky a)},{g,fn,pos,act:=.mark .enable}]:Uk)[0]?=some _ from rfl));have d2:=aa' (g:=g) (qt (t:=t) (show (#[({g,fn,pos,act:=.mark .disable}:Wc),{g,fn,pos,act:=.ofEvent (iJ a)},{g,fn,pos,act:=.ofEvent (ky a)},{g,fn,pos,act:=.mark .enable}]:Uk)[1]?=some _ from rfl));have d3:=aa' (g:=g) (qt (t:=t) (show (#[({g,fn,pos,act:=.mark .disable}:Wc),{g,fn,pos,act:=.ofEvent (iJ a)},{g,fn,pos,act:=.ofEvent (ky a)},{g,fn,pos,act:=.mark .enable}]:Uk)[2]?=some _ from rfl));rw[HZ (zZ _ (.inl rfl))]at d2;rw[HZ (zZ _ (.inr rfl))]at d3;simp only[UJ]at d1;rw[d0]at d1;have d1:=d1.trans (show deafStep g 1 {g,fn,pos,act:=.mark .disable}=2 by simp[deafStep]);have hk:k<4:=by have:=TG sr;simpa using this
  match k,hk with
  |0,_=>simp at sr;subst sr;cases hx
  |1,_=>rw[d1]at hz;omega
  |2,_=>rw[show t.size+2=t.size+1+1 from rfl,d2,d1]at hz;omega
  |3,_=>simp at sr;subst sr;cases hx
theorem Rest.atom{Wg:Nat}{s:dZ}(hr:Rest Wg t K ic (some s)){a:U2}{es:Array Uq}(h:Atom a es){i:Nat}{fn:TO}{pos:String}(hd:UQ t i=1){K':Nat->GS}(cR:∀m,(K' m).idx=(K m).idx):Rest Wg (t++Ta i fn pos es) K' ic (some s):=by
 refine hr.app (λidx a ha hx=> .inr (hx.app (by obtain⟨op,au,_⟩:=US ha;exact TG au) λm _ _ hm=> .inl (by rw[cR];exact hm))) (λidx x hi ⟨op,au,w6,hx⟩ _=> .inr (.inl ⟨?_,h.are hd hi w6 hx⟩));obtain⟨e,he,rfl⟩:=TL au;exact(h.touch he hx).2
theorem WgAt.Gy{Wg:Nat}{a b:Int}(h:WgAt P Wg w a b)(v:Int):WgAt P Wg (w.setCell (dO Wg) (.int .u64 v)) v b:=by
 unfold WgAt at h⊢;unfold Xl;rw[Wi];simp[dO,h,wgBlock]
theorem WgAt.abS{Wg:Nat}{a b:Int}(h:WgAt P Wg w a b)(v:Int):WgAt P Wg (w.setCell (nZ Wg) (.int .u32 v)) a v:=by
 unfold WgAt at h⊢;unfold Xl;rw[Wi];simp[nZ,h,wgBlock]
theorem WgAt.inj{Wg:Nat}{a b a' b':Int}(h:WgAt P Wg w a b)(k:WgAt P Wg w a' b'):a=a'/\b=b':=by
 unfold WgAt at h k;rw[h]at k;simp[wgBlock]at k;exact k
theorem Inv.DI(h:Inv P n0 W0 V gs w t K Im ic (some p) st)(aH:p.recv=true){i:Nat}{gi bx:SH}{es:Array Uq}{k':GS}{s:dZ}{a:U2}(hs:st=some s)(hi:0<i)(aL:gs[i]?=some gi)(aP:stepG P false gi w=.go bx w' es)(hd:UQ t i=1)
  (ha:Atom a es) (yK:a=dO p.Wg\/a=nZ p.Wg) (nd:w'=w\/∃x,w'=w.setCell a x) (hk:k'.is P p.c p.Wg Im p.Ss 1 bx) (py:l8 (k'.view Im) ((K i).view Im)) (wW:k'.mL=true->i=ic) (cR:k'.idx=none) (tP:(K i).idx=none)
  (jL:i=ic\/(K i).cnt=1\/(K i).late=1) (gn:∃n,w.heap[p.c]?=some (.chan 0 #[] false n n false))
  (xb:Mode P p.c p.Wg gs.size w' ((gs.map (woken P gi bx w')).setIfInBounds i bx) (t++Ta i gi.frame.fn gi.frame.place es) (upd K i k') ic s) (tW:qb k'.cT (K i).cT):f_ P n0 W0 V gs w sl t K Im ic (some p) st i:=by
 have hlt:i<gs.size:=(SR.1 aL).1;have vg:a.block=p.Wg:=by rcases yK with rfl|rfl<;>rfl
 have qz:p.c≠p.Wg:=h.phase.2.2.1;have jh:∀b,b≠p.Wg->w'.heap[b]?=w.heap[b]?:=λb hb=>by
  rcases nd with rfl|⟨x,rfl⟩
  ·rfl
  ·exact vr _ _ _ (by rw[vg];exact Ne.symm hb)
 have aT:w'.heap.size=w.heap.size:=by rcases nd with rfl|⟨x,rfl⟩;rfl;exact CP _ _ _
 refine h.sM aH hi aL aP (by rw[hd,ha.behind];exact hk) py wW cR (λj hj=>by rw[tP]at hj;cases hj) (jL.imp id .inr) (λe he x hx=> .inl ?_) (λe he=>ha.low (by rw[vg];exact h.low.2) he) (λe he b=>ha.norel he b) aT (λb _ hb=>jh b hb)
  (by rcases nd with rfl|⟨x,rfl⟩<;>rfl) (by rcases nd with rfl|⟨x,rfl⟩<;>rfl) (by rcases nd with rfl|⟨x,rfl⟩<;>rfl) xb (.inl (by rw[jh _ qz];exact gn)) ?_ (xz hlt tW)
 ·have:=ha.touch he hx;exact⟨by rw[this.1];exact vg,this.2⟩
 ·have hr:Rest p.Wg t K ic st:=h.out.2.2.1;rw[hs]at hr;exact hr.atom ha hd λm=>by
   by_cases hm:m=i
   ·subst hm;rw[bu,cR,tP]
   ·rw[aW _ _ hm]
theorem Inv.ad6(h:Inv P n0 W0 V gs w t K Im ic (some p) st)(aH:p.recv=true){i n:Nat}{gi:SH}(hi:0<i)(aL:gs[i]?=some gi)(hK:K i=.add n)(jk:Aj P p.Wg (UQ t i) gi):f_ P n0 W0 V gs w sl t K Im ic (some p) st i:=by
 have hlt:i<gs.size:=(SR.1 aL).1;obtain⟨s,hs,fU,iu,hm⟩:=h.mode aH;have gB:(K i).cnt=1:=by rw[hK];rfl
 have eW:(K i).late=0:=by rw[hK];rfl
 have tP:(K i).idx=none:=by rw[hK];rfl
 have gn:=(h.counted hi hlt gB).1;have aC:ic≠i:=λe=>by have:=(Mode.waits hm).1;rw[e,gB]at this;cases this
 obtain⟨hd,bF,Fg⟩:=jk;have hle:(K i).cnt<=sumTo gs.size λi=>(K i).cnt:=WB (f:=λi=>(K i).cnt) hlt;have qz:p.c≠p.Wg:=h.phase.2.2.1;have hq:∀(k':GS),sumTo gs.size (λa=>(upd K i k' a).cnt)+(K i).cnt=sumTo gs.size (λa=>(K a).cnt)+k'.cnt:=λk'=>z8 K k' GS.cnt hlt;have sw:∀(k':GS),sumTo gs.size (λa=>(upd K i k' a).late)+(K i).late=sumTo gs.size (λa=>(K a).late)+k'.late:=λk'=>z8 K k' GS.late hlt;have py:∀k':GS,k'.view Im=noView->l8 (k'.view Im) ((K i).view Im):=λk' e=>by rw[e];exact FO _
 have leave:∀(wt v:Nat),wt<=1->v+1=(sumTo gs.size λi=>(K i).cnt)->v<4->¬(v=0/\wt=1)->s=.early->(sumTo gs.size λi=>(K i).late)=0->WgAt P p.Wg w (((v+1:Nat):Int)* KK+wt) 0->
   ((wt=0/\((∃k,(K ic).shape=.head k 0/\v<k)\/(∃u,(K ic).shape=.lG u 0/\v<=u/\0<u)))\/(wt=1/\((K ic).shape=.said 0\/(K ic).shape=.gL 0)))->f_ P n0 W0 V gs w sl t K Im ic (some p) st i:=by
  intro wt v ua hv Fq fH RA asF hW aV;obtain⟨g',aP,_,lO⟩:=Fg v wt ua Fq;obtain⟨q,lO⟩:=lO fH;have B4:=hq (.gone q);have B3:=sw (.gone q);simp only[gB,eW]at B4 B3;rw[show (GS.gone q).cnt=0 from rfl]at B4;rw[show (GS.gone q).late=0 from rfl]at B3;refine h.DI aH (k':=.gone q) (a:=dO p.Wg) hs hi aL (aP w hW) hd (.inr (.inr (.inl rfl))) (.inl rfl) (.inr ⟨_,rfl⟩) lO (py _ rfl) (λx=>by cases x) rfl tP (.inr (.inl gB)) gn ?_ (by rw[hK];exact .inl (by simp[GS.cT]));have va:=hW.Gy ((v:Int)* KK+wt);unfold Mode;simp only[aW _ _ aC];have Ij:sumTo gs.size (λa=>(upd K i (.gone q) a).cnt)=v:=by omega
  have Io:sumTo gs.size (λa=>(upd K i (.gone q) a).late)=0:=by omega
  simp only[Ij,Io];have ho:∃n,(w.setCell (dO p.Wg) (.int .u64 ((v:Int)* KK+wt))).heap[p.c]?=some (.chan 0 #[] false n n false):=by
   obtain⟨n,hn⟩:=gn;exact⟨n,by rw[vr _ _ _ (Ne.symm qz)];exact hn⟩
  rcases aV with⟨rfl,aV⟩|⟨rfl,aV⟩
  ·exact .inl ⟨ho,RA,trivial,by omega,by simpa using va,aV⟩
  ·exact .inr (.inl ⟨ho,RA,trivial,by omega,by omega,by simpa using va,aV⟩)
 unfold Mode at hm;rcases hm with m|m|m|m|m|m|m
 ·obtain⟨m1,m2,m3,m4,m5,m6⟩:=m;refine leave 0 ((sumTo gs.size λi=>(K i).cnt)-1) (by omega) (by omega) (by omega) (by omega) m2 m3 ?_ (.inl ⟨rfl,?_⟩)
  ·rw[show (sumTo gs.size λi=>(K i).cnt)-1+1=(sumTo gs.size λi=>(K i).cnt) by omega];simpa using m5
  ·rcases m6 with⟨k,e1,e2⟩|⟨u,e1,e2,e3⟩
   ·exact .inl ⟨k,e1,by omega⟩
   ·exact .inr ⟨u,e1,by omega,e3⟩
 ·obtain⟨m1,m2,m3,m4,m5,m6,m7⟩:=m;by_cases hv:(sumTo gs.size λi=>(K i).cnt)=1
  ·
   obtain⟨g',aP,iN,_⟩:=Fg 0 1 (by omega) (by omega);obtain⟨n',iN⟩:=iN ⟨rfl,rfl⟩;have B4:=hq (.load n');have B3:=sw (.load n');simp only[gB,eW]at B4 B3;rw[show (GS.load n').cnt=0 from rfl]at B4;rw[show (GS.load n').late=1 from rfl]at B3;rw[hv]at m6;have hW:WgAt P p.Wg w (((0+1:Nat):Int)* KK+(1:Nat)) 0:=(by simpa using m6);refine h.DI aH (k':=.load n') (a:=dO p.Wg) hs hi aL (aP w hW) hd (.inr (.inr (.inl rfl))) (.inl rfl) (.inr ⟨_,rfl⟩) iN (py _ rfl) (λx=>by cases x) rfl tP (.inr (.inl gB)) gn ?_ (by rw[hK];exact .inl (by simp[GS.cT]));have va:=hW.Gy (((0:Nat):Int)* KK+(1:Nat));unfold Mode;simp only[aW _ _ aC];have Ij:sumTo gs.size (λa=>(upd K i (.load n') a).cnt)=0:=(by omega);have Io:sumTo gs.size (λa=>(upd K i (.load n') a).late)=1:=(by omega);simp only[Ij,Io];have ho:∃n,(w.setCell (dO p.Wg) (.int .u64 (((0:Nat):Int)* KK+(1:Nat)))).heap[p.c]?=some (.chan 0 #[] false n n false):=by
    obtain⟨n,hn⟩:=gn;exact⟨n,by rw[vr _ _ _ (Ne.symm qz)];exact hn⟩
   refine .inr (.inr (.inl ⟨ho,m2,trivial,trivial,m7,λ_ _ _=>by simpa using va,λm hm pD=> ?_⟩));exfalso;have cO:m≠i:=λe=>(by subst e;rw[bu]at pD;cases pD);rw[aW _ _ cO]at pD;have QX:(K m).late<=sumTo gs.size λi=>(K i).late:=WB (f:=λi=>(K i).late) hm;rw[m3,<- GS.lU,pD]at QX;simp[GS.late]at QX
  ·refine leave 1 ((sumTo gs.size λi=>(K i).cnt)-1) (by omega) (by omega) (by omega) (by omega) m2 m3 ?_ (.inr ⟨rfl,m7⟩);rw[show (sumTo gs.size λi=>(K i).cnt)-1+1=(sumTo gs.size λi=>(K i).cnt) by omega];simpa using m6
 ·have:=m.2.2.2.1;omega
 ·have:=m.2.2.2.1;omega
 ·have:=m.2.2.2.1;omega
 ·have:=m.2.2.2.1;omega
 ·have:=m.2.2.1;omega
theorem Mode.Cq{c Wg N:Nat}{s:dZ}(hm:Mode P c Wg N w gs t K ic s){i:Nat}(hlt:i<N)(eW:(K i).late=1):
  (∃n,w.heap[c]?=some (.chan 0 #[] false n n false))/\s=.early/\(sumTo N λi=>(K i).late)=1/\(sumTo N λi=>(K i).cnt)=0/\((K ic).shape=.said 0\/(K ic).shape=.gL 0)/\
  (((K i).shape=.load 0\/(K i).shape=.store 0)->WgAt P Wg w 1 0)/\((K i).shape=.lX 0->WgAt P Wg w 0 0):=by
 have hle:(K i).late<=sumTo N λi=>(K i).late:=WB (f:=λi=>(K i).late) hlt;unfold Mode at hm;rcases hm with m|m|m|m|m|m|m
 ·have:=m.2.2.1;omega
 ·have:=m.2.2.1;omega
 ·exact⟨m.1,m.2.1,m.2.2.1,m.2.2.2.1,m.2.2.2.2.1,m.2.2.2.2.2.1 i hlt,m.2.2.2.2.2.2 i hlt⟩
 ·have:=m.2.2.1;omega
 ·have:=m.2.2.1;omega
 ·have:=m.2.2.1;omega
 ·have:=m.2.1;omega
theorem aaU{N:Nat}(h:(sumTo N λi=>(K i).late)=1){i m:Nat}(hi:i<N)(hm:m<N)(aC:m≠i)(eW:(K i).late=1):(K m).late=0:=by
 have:=z8 K (.gone 0) GS.late hi;have h2:((upd K i (.gone 0)) m).late<=sumTo N λa=>(upd K i (.gone 0) a).late:=WB (f:=λa=>(upd K i (.gone 0) a).late) hm;rw[aW _ _ aC]at h2;simp only[eW,h,show (GS.gone 0).late=0 from rfl]at this;omega
theorem Inv.Lq(h:Inv P n0 W0 V gs w t K Im ic (some p) st)(aH:p.recv=true){i:Nat}{gi bx:SH}{es:Array Uq}{k':GS}{a:U2}(hi:0<i)(aL:gs[i]?=some gi)(aP:stepG P false gi w=.go bx w' es)(hd:UQ t i=1)
  (ha:Atom a es) (yK:a=dO p.Wg\/a=nZ p.Wg) (nd:w'=w\/∃x,w'=w.setCell a x) (hk:k'.is P p.c p.Wg Im p.Ss 1 bx) (hv:k'.view Im=noView) (cR:k'.idx=none) (tP:(K i).idx=none) (ox:(K i).cnt=0) (ajn:k'.cnt=0) (wW:k'.mL=false) (eW:(K i).late=1)
  (vt:(k'.late=1/\((k'.shape=.load 0\/k'.shape=.store 0)->WgAt P p.Wg w' 1 0)/\(k'.shape=.lX 0->WgAt P p.Wg w' 0 0))\/
   (k'.late=0/\WgAt P p.Wg w' 0 1/\∀g,((gs.map (woken P gi bx w')).setIfInBounds i bx)[ic]?=some g->g.status=.running)) (tW:qb k'.cT (K i).cT):f_ P n0 W0 V gs w sl t K Im ic (some p) st i:=by
 have hlt:i<gs.size:=(SR.1 aL).1;obtain⟨s,hs,fU,iu,hm⟩:=h.mode aH;obtain⟨m1,m2,m3,m4,m5,m6,m7⟩:=hm.Cq hlt eW;have aC:ic≠i:=λe=>by have:=(Mode.waits hm).2;rw[e,eW]at this;cases this
 have qz:p.c≠p.Wg:=h.phase.2.2.1;have vg:a.block=p.Wg:=by rcases yK with rfl|rfl<;>rfl
 have jh:∀b,b≠p.Wg->w'.heap[b]?=w.heap[b]?:=λb hb=>by
  rcases nd with rfl|⟨x,rfl⟩
  ·rfl
  ·exact vr _ _ _ (by rw[vg];exact Ne.symm hb)
 refine h.DI aH hs hi aL aP hd ha yK nd hk (by rw[hv];exact FO _) (λx=>by rw[wW]at x;cases x) cR tP (.inr (.inr eW)) m1 ?_ tW;have e1:sumTo gs.size (λa=>(upd K i k' a).cnt)=0:=by have:=z8 K k' GS.cnt hlt;simp only[ox,ajn,m4]at this;omega
 unfold Mode;simp only[aW _ _ aC,e1,jh _ qz];rcases vt with⟨x1,x2,x3⟩|⟨x1,x2,x3⟩
 ·have e2:sumTo gs.size (λa=>(upd K i k' a).late)=1:=by have:=z8 K k' GS.late hlt;simp only[eW,x1,m3]at this;omega
  refine .inr (.inr (.inl ⟨m1,m2,e2,trivial,m5,λm hm dK=> ?_,λm hm dK=> ?_⟩))
  ·by_cases cO:m=i
   ·subst cO;rw[bu]at dK;exact x2 dK
   ·rw[aW _ _ cO]at dK;have:=aaU m3 hlt hm cO eW;rw[<- GS.lU]at this;rcases dK with e|e<;>rw[e]at this<;>cases this
  ·by_cases cO:m=i
   ·subst cO;rw[bu]at dK;exact x3 dK
   ·rw[aW _ _ cO]at dK;have:=aaU m3 hlt hm cO eW;rw[<- GS.lU,dK]at this;cases this
 ·have e2:sumTo gs.size (λa=>(upd K i k' a).late)=0:=by have:=z8 K k' GS.late hlt;simp only[eW,x1,m3]at this;omega
  exact .inr (.inr (.inr (.inl ⟨m1,m2,e2,trivial,x2,x3,m5⟩)))
theorem Inv.amc(h:Inv P n0 W0 V gs w t K Im ic (some p) st)(aH:p.recv=true){i n:Nat}{gi:SH}(hi:0<i)(aL:gs[i]?=some gi)(hK:K i=.load n)(jk:De P p.Wg (UQ t i) gi):f_ P n0 W0 V gs w sl t K Im ic (some p) st i:=by
 have hlt:i<gs.size:=(SR.1 aL).1;obtain⟨s,hs,fU,iu,hm⟩:=h.mode aH;have eW:(K i).late=1:=by rw[hK];rfl
 obtain⟨m1,m2,m3,m4,m5,m6,m7⟩:=hm.Cq hlt eW;obtain⟨hd,bF,g',aP,n',dG⟩:=jk;have hW:=m6 (by rw[hK];exact .inl rfl);exact h.Lq aH (k':=.store n') (a:=dO p.Wg) hi aL (aP w hW) hd (.inl rfl) (.inl rfl) (.inl rfl) dG rfl rfl (by rw[hK];rfl) (by rw[hK];rfl) rfl rfl eW (.inl ⟨rfl,λ_=>hW,λx=>by cases x⟩) (by rw[hK];exact .inl (by simp[GS.cT]))
theorem Inv.aqi(h:Inv P n0 W0 V gs w t K Im ic (some p) st)(aH:p.recv=true){i n:Nat}{gi:SH}(hi:0<i)(aL:gs[i]?=some gi)(hK:K i=.store n)(jk:Dg P p.Wg (UQ t i) gi):f_ P n0 W0 V gs w sl t K Im ic (some p) st i:=by
 have hlt:i<gs.size:=(SR.1 aL).1;obtain⟨s,hs,fU,iu,hm⟩:=h.mode aH;have eW:(K i).late=1:=by rw[hK];rfl
 obtain⟨m1,m2,m3,m4,m5,m6,m7⟩:=hm.Cq hlt eW;obtain⟨hd,bF,g',aP,n',dG⟩:=jk;have hW:=m6 (by rw[hK];exact .inr rfl);exact h.Lq aH (k':=.lX n') (a:=dO p.Wg) hi aL (aP w hW) hd (.inr (.inl rfl)) (.inl rfl) (.inr ⟨_,rfl⟩) dG rfl rfl (by rw[hK];rfl) (by rw[hK];rfl) rfl rfl eW (.inl ⟨rfl,λx=>(x.elim (λy=>by cases y) (λy=>by cases y)),λ_=>hW.Gy 0⟩) (by rw[hK];exact .inl (by simp[GS.cT]))
theorem Inv.apw(h:Inv P n0 W0 V gs w t K Im ic (some p) st)(aH:p.recv=true){i n:Nat}{gi:SH}(hi:0<i)(aL:gs[i]?=some gi)(hK:K i=.lX n)(jk:Df P p.Wg (UQ t i) gi):f_ P n0 W0 V gs w sl t K Im ic (some p) st i:=by
 have hlt:i<gs.size:=(SR.1 aL).1;obtain⟨s,hs,fU,iu,hm⟩:=h.mode aH;have eW:(K i).late=1:=by rw[hK];rfl
 obtain⟨m1,m2,m3,m4,m5,m6,m7⟩:=hm.Cq hlt eW;obtain⟨hd,bF,J6,g',aP,q,lO⟩:=jk;have hW:=m7 (by rw[hK];rfl);have aC:ic≠i:=λe=>by have:=(Mode.waits hm).2;rw[e,eW]at this;cases this
 refine h.Lq aH (k':=.gone q) (a:=nZ p.Wg) hi aL (aP w hW) hd (.inr (.inr (.inr rfl))) (.inr rfl) (.inr ⟨_,rfl⟩) lO rfl rfl (by rw[hK];rfl) (by rw[hK];rfl) rfl rfl eW (.inr ⟨rfl,hW.abS 1,λg hg=> ?_⟩) (by rw[hK];exact .inl (by simp[GS.cT]));rcases getElem?_next hlt hg with⟨e,_⟩|⟨_,y,hy,rfl⟩
 ·exact absurd e aC
 ·have w9:=h.is ic y fU hy;simp only at w9;have dK:(∃n,K ic=.said n)\/∃n,K ic=.gL n:=by
   cases wO:K ic<;>rw[wO]at m5<;>simp[GS.shape]at m5
   ·exact .inl ⟨_,rfl⟩
   ·exact .inr ⟨_,rfl⟩
  rcases dK with⟨n1,e⟩|⟨n1,e⟩
  ·rw[e]at w9;have hr:y.status=.running:=gJ.running (λd g x=>x.2.1) w9;rw[Ym hr];exact hr
  ·rw[e]at w9;rcases w9 with w9|⟨_,g1,rfl,JE⟩
   ·have hr:y.status=.running:=cL.running (λd g x=>x.2.1) w9;rw[Ym hr];exact hr
   ·have JK:g'.status=.running\/g'.status=.finished:=ZG lO;unfold woken;have ajm:(mayWake P gi&&g'.status != .blocked&&g'.status != .waiting)=true:=(by rcases JK with hs|hs<;>simp[J6,hs]);rw[if_pos ajm];unfold YW;have:=JE.2.2.1;simp[this]
theorem Mode.aeE{c Wg N k:Nat}{s:dZ}(hm:Mode P c Wg N w gs t K ic s)(e:(K ic).shape=.head k 0):
  (∃n,w.heap[c]?=some (.chan 0 #[] false n n false))/\s=.early/\(sumTo N λi=>(K i).late)=0/\(sumTo N λi=>(K i).cnt)<=4/\WgAt P Wg w (((sumTo N λi=>(K i).cnt:Nat):Int)* KK) 0/\(sumTo N λi=>(K i).cnt)<k:=by
 unfold Mode at hm;simp only[e]at hm;rcases hm with m|m|m|m|m|m|m
 ·obtain⟨a,b,c,d,f,x⟩:=m;refine⟨a,b,c,d,f,?_⟩;rcases x with⟨k',x,y⟩|⟨v,x,_⟩
  ·cases x;exact y
  ·cases x
 ·rcases m.2.2.2.2.2.2 with x|x<;>cases x
 ·rcases m.2.2.2.2.1 with x|x<;>cases x
 ·rcases m.2.2.2.2.2.2 with x|x<;>cases x
 ·rcases m.2.2.2.2.2 with x|x<;>cases x
 ·rcases m.2.2.2.2 with x|x<;>cases x
 ·cases m.2.2.2
theorem Mode.aeD{c Wg N v:Nat}{s:dZ}(hm:Mode P c Wg N w gs t K ic s)(e:(K ic).shape=.lG v 0):
  (∃n,w.heap[c]?=some (.chan 0 #[] false n n false))/\s=.early/\(sumTo N λi=>(K i).late)=0/\(sumTo N λi=>(K i).cnt)<=4/\WgAt P Wg w (((sumTo N λi=>(K i).cnt:Nat):Int)* KK) 0/\(sumTo N λi=>(K i).cnt)<=v/\0<v:=by
 unfold Mode at hm;simp only[e]at hm;rcases hm with m|m|m|m|m|m|m
 ·obtain⟨a,b,c,d,f,x⟩:=m;refine⟨a,b,c,d,f,?_⟩;rcases x with⟨k',x,y⟩|⟨v,x,y⟩
  ·cases x
  ·cases x;exact y
 ·rcases m.2.2.2.2.2.2 with x|x<;>cases x
 ·rcases m.2.2.2.2.1 with x|x<;>cases x
 ·rcases m.2.2.2.2.2.2 with x|x<;>cases x
 ·rcases m.2.2.2.2.2 with x|x<;>cases x
 ·rcases m.2.2.2.2 with x|x<;>cases x
 ·cases m.2.2.2
theorem Mode.NG{c Wg N:Nat}{s:dZ}(hm:Mode P c Wg N w gs t K ic s)(e:(K ic).shape=.last 0\/(K ic).shape=.acq 0):
  (∃n,w.heap[c]?=some (.chan 0 #[] false n n false))/\s=.early/\(sumTo N λi=>(K i).late)=0/\(sumTo N λi=>(K i).cnt)=0/\WgAt P Wg w 0 0:=by
 unfold Mode at hm;rcases hm with m|m|m|m|m|m|m
 ·rcases m.2.2.2.2.2 with⟨_,x,_⟩|⟨_,x,_⟩<;>rcases e with e|e<;>rw[e]at x<;>cases x
 ·rcases m.2.2.2.2.2.2 with x|x<;>rcases e with e|e<;>rw[e]at x<;>cases x
 ·rcases m.2.2.2.2.1 with x|x<;>rcases e with e|e<;>rw[e]at x<;>cases x
 ·rcases m.2.2.2.2.2.2 with x|x<;>rcases e with e|e<;>rw[e]at x<;>cases x
 ·exact⟨m.1,m.2.1,m.2.2.1,m.2.2.2.1,m.2.2.2.2.1⟩
 ·rcases m.2.2.2.2 with x|x<;>rcases e with e|e<;>rw[e]at x<;>cases x
 ·have x:=m.2.2.2;rcases e with e|e<;>rw[e]at x<;>cases x
theorem Mode.NH{c Wg N:Nat}{s:dZ}(hm:Mode P c Wg N w gs t K ic s)(e:(K ic).shape=.look 0\/(K ic).shape=.close 0):
  (∃n,w.heap[c]?=some (.chan 0 #[] false n n false))/\s=.got/\(sumTo N λi=>(K i).late)=0/\(sumTo N λi=>(K i).cnt)=0:=by
 unfold Mode at hm;rcases hm with m|m|m|m|m|m|m
 ·rcases m.2.2.2.2.2 with⟨_,x,_⟩|⟨_,x,_⟩<;>rcases e with e|e<;>rw[e]at x<;>cases x
 ·rcases m.2.2.2.2.2.2 with x|x<;>rcases e with e|e<;>rw[e]at x<;>cases x
 ·rcases m.2.2.2.2.1 with x|x<;>rcases e with e|e<;>rw[e]at x<;>cases x
 ·rcases m.2.2.2.2.2.2 with x|x<;>rcases e with e|e<;>rw[e]at x<;>cases x
 ·rcases m.2.2.2.2.2 with x|x<;>rcases e with e|e<;>rw[e]at x<;>cases x
 ·exact⟨m.1,m.2.1,m.2.2.1,m.2.2.2.1⟩
 ·have x:=m.2.2.2;rcases e with e|e<;>rw[e]at x<;>cases x
theorem Mode.NI{c Wg N:Nat}{s:dZ}(hm:Mode P c Wg N w gs t K ic s)(e:(K ic).shape=.said 0\/(K ic).shape=.gL 0):
  (∃n,w.heap[c]?=some (.chan 0 #[] false n n false))/\s=.early/\((∃st,WgAt P Wg w st 0)\/((sumTo N λi=>(K i).late)=0/\(sumTo N λi=>(K i).cnt)=0/\WgAt P Wg w 0 1))/\
  ∀{w':Tp}{gs':Array SH}{u:Uk}{k':GS},(k'.shape=.said 0\/k'.shape=.gL 0)->w'.heap[c]?=w.heap[c]?->w'.heap[Wg]?=w.heap[Wg]?->(WgAt P Wg w 0 1->∀g,gs'[ic]?=some g->g.status=.running)->ic<N->Mode P c Wg N w' gs' (t++u) (upd K ic k') ic s:=by
 have wait:∀{k:GS},(k.shape=.said 0\/k.shape=.gL 0)->k.cnt=0/\k.late=0:=λ{k} h=>by rw[<- GS.mM,<- GS.lU];rcases h with h|h<;>rw[h]<;>exact⟨rfl,rfl⟩
 have tail:∀(w':Tp)(gs':Array SH)(u:Uk)(k':GS),(k'.shape=.said 0\/k'.shape=.gL 0)->w'.heap[c]?=w.heap[c]?->w'.heap[Wg]?=w.heap[Wg]?->(WgAt P Wg w 0 1->∀g,gs'[ic]?=some g->g.status=.running)->ic<N->Mode P c Wg N w' gs' (t++u) (upd K ic k') ic s:=by
  intro w' gs' u k' hk hc hW hr fE;have e1:sumTo N (λi=>(upd K ic k' i).cnt)=sumTo N λi=>(K i).cnt:=kM K k' GS.cnt (by rw[(wait hk).1,(wait e).1]);have e2:sumTo N (λi=>(upd K ic k' i).late)=sumTo N λi=>(K i).late:=kM K k' GS.late (by rw[(wait hk).2,(wait e).2]);have e3:∀st sm,WgAt P Wg w' st sm=WgAt P Wg w st sm:=λst sm=>by unfold WgAt;rw[hW]
  have e5:∀i (q:GS),(q=.load 0\/q=.store 0\/q=.lX 0)->(upd K ic k' i).shape=q->(K i).shape=q:=λi q hq hs=>by
   by_cases hi:i=ic
   ·subst hi;rw[bu]at hs;rcases hk with x|x<;>rw[x]at hs<;>subst hs<;>rcases hq with y|y|y<;>cases y
   ·rw[aW _ _ hi]at hs;exact hs
  unfold Mode at hm⊢;simp only[e1,e2,e3,hc,bu];rcases hm with m|m|m|m|m|m|m
  ·rcases m.2.2.2.2.2 with⟨_,x,_⟩|⟨_,x,_⟩<;>rcases e with e|e<;>rw[e]at x<;>cases x
  ·exact .inr (.inl ⟨m.1,m.2.1,m.2.2.1,m.2.2.2.1,m.2.2.2.2.1,m.2.2.2.2.2.1,hk⟩)
  ·exact .inr (.inr (.inl ⟨m.1,m.2.1,m.2.2.1,m.2.2.2.1,hk,λi hi x=>m.2.2.2.2.2.1 i hi (x.imp (e5 i _ (.inl rfl)) (e5 i _ (.inr (.inl rfl)))),λi hi x=>m.2.2.2.2.2.2 i hi (e5 i _ (.inr (.inr rfl)) x)⟩))
  ·exact .inr (.inr (.inr (.inl ⟨m.1,m.2.1,m.2.2.1,m.2.2.2.1,m.2.2.2.2.1,hr m.2.2.2.2.1,hk⟩)))
  ·rcases m.2.2.2.2.2 with x|x<;>rcases e with e|e<;>rw[e]at x<;>cases x
  ·rcases m.2.2.2.2 with x|x<;>rcases e with e|e<;>rw[e]at x<;>cases x
  ·have x:=m.2.2.2;rcases e with e|e<;>rw[e]at x<;>cases x
 have iy:=hm;unfold Mode at hm;rcases hm with m|m|m|m|m|m|m
 ·rcases m.2.2.2.2.2 with⟨_,x,_⟩|⟨_,x,_⟩<;>rcases e with e|e<;>rw[e]at x<;>cases x
 ·exact⟨m.1,m.2.1,.inl ⟨_,m.2.2.2.2.2.1⟩,λ{w'} {gs'} {u} {k'}=>tail w' gs' u k'⟩
 ·refine⟨m.1,m.2.1,.inl ?_,λ{w'} {gs'} {u} {k'}=>tail w' gs' u k'⟩;have:∃i,i<N/\(K i).late=1:=by
   apply Tu;intro fH;have hz:sumTo N (λi=>(K i).late)=sumTo N λ_=>0:=Vl λi hi=>by
    have aC:¬(K i).late=1:=λx=>fH ⟨i,hi,x⟩;cases kz:K i<;>rw[kz]at aC<;>first|rfl|exact absurd rfl aC
   have h0:sumTo N (λ_=>0)=0:=by
    have:∀N,sumTo N (λ_=>0)=0:=λN=>(by induction N with|zero=>rfl|succ N ih=>simp[sumTo,ih]);exact this N
   have:=m.2.2.1;omega
  obtain⟨i,hi,eW⟩:=this;obtain⟨_,_,_,_,_,m6,m7⟩:=iy.Cq hi eW;cases kz:K i<;>rw[kz]at eW m6 m7<;>simp[GS.late]at eW
  ·exact⟨1,m6 (.inl rfl)⟩
  ·exact⟨1,m6 (.inr rfl)⟩
  ·exact⟨0,m7 rfl⟩
 ·exact⟨m.1,m.2.1,.inr ⟨m.2.2.1,m.2.2.2.1,m.2.2.2.2.1⟩,λ{w'} {gs'} {u} {k'}=>tail w' gs' u k'⟩
 ·rcases m.2.2.2.2.2 with x|x<;>rcases e with e|e<;>rw[e]at x<;>cases x
 ·rcases m.2.2.2.2 with x|x<;>rcases e with e|e<;>rw[e]at x<;>cases x
 ·have x:=m.2.2.2;rcases e with e|e<;>rw[e]at x<;>cases x
theorem FN(Im:cm):l8 {noView with ab:=Im} {noView with ab:=Im}:=⟨λ_=> .inr rfl,λ_ _=> .inr rfl,λ_ _ _=>rfl⟩
theorem alY(Im:cm):l8 noView {noView with ab:=Im}:=⟨λ_=> .inr rfl,λ_ _=> .inl rfl,λb hb=>absurd rfl hb⟩
theorem Inv.yj(h:Inv P n0 W0 V gs w t K Im ic (some p) st)(aH:p.recv=true){gi bx:SH}{es:Array Uq}{k':GS}{a:U2}{s:dZ}(hs:st=some s)(aL:gs[ic]?=some gi)(aP:stepG P false gi w=.go bx w' es)(hd:UQ t ic=1)
  (ha:Atom a es) (yK:a=dO p.Wg\/a=nZ p.Wg) (nd:w'=w\/∃x,w'=w.setCell a x) (hk:k'.is P p.c p.Wg Im p.Ss 1 bx) (hv:k'.view Im={noView with ab:=Im}) (xi:(K ic).view Im={noView with ab:=Im}) (cR:k'.idx=none) (tP:(K ic).idx=none)
  (gn:∃n,w.heap[p.c]?=some (.chan 0 #[] false n n false))
  (xb:Mode P p.c p.Wg gs.size w' ((gs.map (woken P gi bx w')).setIfInBounds ic bx) (t++Ta ic gi.frame.fn gi.frame.place es) (upd K ic k') ic s) (tW:qb k'.cT (K ic).cT):f_ P n0 W0 V gs w sl t K Im ic (some p) st ic:=by
 obtain⟨s',_,fU,_,_⟩:=h.mode aH;exact h.DI aH hs fU aL aP hd ha yK nd hk (by rw[hv,xi];exact FN Im) (λ_=>rfl) cR tP (.inl rfl) gn xb tW
theorem Inv.ajH(h:Inv P n0 W0 V gs w t K Im ic (some p) st)(aH:p.recv=true){k n:Nat}{gi:SH}(aL:gs[ic]?=some gi)(hK:K ic=.head k n)(jk:ek P Im p.c p.Wg k (UQ t ic) gi):f_ P n0 W0 V gs w sl t K Im ic (some p) st ic:=by
 obtain⟨s,hs,fU,iu,hm⟩:=h.mode aH;obtain⟨m1,m2,m3,m4,m5,m6⟩:=hm.aeE (k:=k) (by rw[hK];rfl);obtain⟨k,rfl⟩:∃k',k=k'+1:=⟨k-1,by omega⟩;obtain⟨hd,bF,Fg⟩:=ek.succ _ _ _ _ jk;obtain⟨g',aP,hz,Kc⟩:=Fg _ (by omega) m4;have ld:=aP w m5;have tj:∀k':GS,k'.cnt=0->k'.late=0->sumTo gs.size (λi=>(upd K ic k' i).cnt)=(sumTo gs.size λi=>(K i).cnt)/\sumTo gs.size (λi=>(upd K ic k' i).late)=(sumTo gs.size λi=>(K i).late):=λk' h1 h2=>
  ⟨kM K k' GS.cnt (by rw[h1,hK];rfl),kM K k' GS.late (by rw[h2,hK];rfl)⟩
 by_cases hv:(sumTo gs.size λi=>(K i).cnt)=0
 ·obtain⟨n',dG⟩:=hz hv;refine h.yj aH (k':=.acq n') (a:=dO p.Wg) hs aL ld hd (.inl rfl) (.inl rfl) (.inl rfl) dG rfl (by rw[hK];rfl) rfl (by rw[hK];rfl) m1 ?_ (by rw[hK];exact .inl (by simp[GS.cT];omega));unfold Mode;simp only[(tj (.acq n') rfl rfl).1,(tj (.acq n') rfl rfl).2,bu];refine .inr (.inr (.inr (.inr (.inl ⟨m1,m2,m3,hv,?_,.inr rfl⟩))));rw[hv]at m5;simpa using m5
 ·obtain⟨n',dG⟩:=Kc hv;refine h.yj aH (k':=.lG (sumTo gs.size λi=>(K i).cnt) n') (a:=dO p.Wg) hs aL ld hd (.inl rfl) (.inl rfl) (.inl rfl) dG rfl (by rw[hK];rfl) rfl (by rw[hK];rfl) m1 ?_ (by rw[hK];exact .inl (by simp[GS.cT];omega));unfold Mode;simp only[(tj (.lG _ n') rfl rfl).1,(tj (.lG _ n') rfl rfl).2,bu];exact .inl ⟨m1,m2,m3,m4,m5,.inr ⟨_,rfl,SQ _,by omega⟩⟩
theorem Inv.afG(h:Inv P n0 W0 V gs w t K Im ic (some p) st)(aH:p.recv=true){v n:Nat}{gi:SH}(aL:gs[ic]?=some gi)(hK:K ic=.lG v n)(jk:Db P p.c p.Wg Im v (UQ t ic) gi):f_ P n0 W0 V gs w sl t K Im ic (some p) st ic:=by
 obtain⟨s,hs,fU,iu,hm⟩:=h.mode aH;obtain⟨m1,m2,m3,m4,m5,m6,m7⟩:=hm.aeD (v:=v) (by rw[hK];rfl);obtain⟨hd,bF,⟨g1,Ff,n1,akL⟩,aj2⟩:=jk;have qz:p.c≠p.Wg:=h.phase.2.2.1;have tj:∀k':GS,k'.cnt=0->k'.late=0->sumTo gs.size (λi=>(upd K ic k' i).cnt)=(sumTo gs.size λi=>(K i).cnt)/\sumTo gs.size (λi=>(upd K ic k' i).late)=(sumTo gs.size λi=>(K i).late):=λk' h1 h2=>
  ⟨kM K k' GS.cnt (by rw[h1,hK];rfl),kM K k' GS.late (by rw[h2,hK];rfl)⟩
 by_cases hv:(sumTo gs.size λi=>(K i).cnt)=v
 ·refine h.yj aH (k':=.said n1) (a:=dO p.Wg) hs aL (Ff w (by rw[<- hv];exact m5)) hd (.inr (.inr (.inl rfl))) (.inl rfl) (.inr ⟨_,rfl⟩) akL rfl (by rw[hK];rfl) rfl (by rw[hK];rfl) m1 ?_ (by rw[hK];exact .inl (by simp[GS.cT];omega));unfold Mode;simp only[(tj (.said n1) rfl rfl).1,(tj (.said n1) rfl rfl).2,bu];refine .inr (.inl ⟨?_,m2,m3,by omega,m4,?_,.inl rfl⟩)
  ·obtain⟨n,hn⟩:=m1;exact⟨n,by rw[vr _ _ _ (Ne.symm qz)];exact hn⟩
  ·rw[hv];exact m5.Gy _
 ·obtain⟨g',ld,n',dG⟩:=aj2 (sumTo gs.size λi=>(K i).cnt) (by omega);refine h.yj aH (k':=.head v n') (a:=dO p.Wg) hs aL (ld w m5) hd (.inl rfl) (.inl rfl) (.inl rfl) dG rfl (by rw[hK];rfl) rfl (by rw[hK];rfl) m1 ?_ (by rw[hK];exact .inl (by simp[GS.cT]));unfold Mode;simp only[(tj (.head v n') rfl rfl).1,(tj (.head v n') rfl rfl).2,bu];exact .inl ⟨m1,m2,m3,m4,m5,.inl ⟨v,rfl,by omega⟩⟩
theorem Inv.alw(h:Inv P n0 W0 V gs w t K Im ic (some p) st)(aH:p.recv=true){n:Nat}{gi:SH}(aL:gs[ic]?=some gi)(hK:K ic=.last n)(jk:Hb P Im p.c p.Wg (UQ t ic) gi):f_ P n0 W0 V gs w sl t K Im ic (some p) st ic:=by
 obtain⟨s,hs,fU,iu,hm⟩:=h.mode aH;obtain⟨m1,m2,m3,m4,m5⟩:=hm.NG (.inl (by rw[hK];rfl));obtain⟨hd,bF,g',aP,n',dG⟩:=jk;refine h.yj aH (k':=.acq n') (a:=dO p.Wg) hs aL (aP w m5) hd (.inl rfl) (.inl rfl) (.inl rfl) dG rfl (by rw[hK];rfl) rfl (by rw[hK];rfl) m1 ?_ (by rw[hK];exact .inl (by simp[GS.cT]));unfold Mode;have e1:sumTo gs.size (λi=>(upd K ic (.acq n') i).cnt)=0:=by rw[kM K (.acq n') GS.cnt (by rw[hK];rfl)];exact m4
 have e2:sumTo gs.size (λi=>(upd K ic (.acq n') i).late)=0:=by rw[kM K (.acq n') GS.late (by rw[hK];rfl)];exact m3
 simp only[e1,e2,bu];exact .inr (.inr (.inr (.inr (.inl ⟨m1,m2,trivial,trivial,m5,.inr rfl⟩))))
theorem Inv.afS(h:Inv P n0 W0 V gs w t K Im ic (some p) st)(aH:p.recv=true){n:Nat}{gi:SH}(aL:gs[ic]?=some gi)(hK:K ic=.gL n)(jk:Dd P Im p.c p.Wg (UQ t ic) gi):f_ P n0 W0 V gs w sl t K Im ic (some p) st ic:=by
 obtain⟨s,hs,fU,iu,hm⟩:=h.mode aH;obtain⟨m1,m2,m3,mk⟩:=hm.NI (.inr (by rw[hK];rfl));obtain⟨hd,bF,akc,vg,g',RF,n',dG⟩:=jk;have qz:p.c≠p.Wg:=h.phase.2.2.1;rcases m3 with⟨stv,hW⟩|⟨m4,m5,hW⟩
 ·
  have aP:=vg w stv hW;have J':¬WgAt P p.Wg w 0 1:=λx=>by have:=(hW.inj x).2;cases this
  refine h.sM aH (k':=.gL 0) (s':=s) fU aL aP (.inr ⟨rfl,gi,rfl,by rw[hd];exact⟨rfl,bF,akc,vg,g',RF,n',dG⟩⟩) (by rw[hK];exact FN Im) (λ_=>rfl) rfl (λj hj=>by rw[hK]at hj;cases hj) (.inl rfl) (by simp) (by simp) (by simp) rfl (λ_ _ _=>rfl) rfl rfl rfl
   (mk (.inr rfl) rfl rfl (λx=>absurd x J') iu) (.inl m1) ?_ ?_
  ·have e0:t++Ta ic gi.frame.fn gi.frame.place #[]=t:=(by simp[Ta]);have hr:Rest p.Wg t K ic st:=h.out.2.2.1;rw[hs]at hr;refine hr.app (λidx a ha hx=> .inr (hx.app (by obtain⟨op,au,_⟩:=US ha;exact TG au) λm _ _ hj=> .inl ?_)) (λidx a _ ⟨op,au,_⟩ _=>by simp[Ta]at au);by_cases cO:m=ic
   ·subst cO;rw[hK]at hj;cases hj
   ·rw[aW _ _ cO];exact hj
  ·by_cases hn:n=0
   ·refine .inr ⟨funext λj=> ?_,?_⟩
    ·by_cases hj:j=ic
     ·subst hj;simp only[bu,hK,hn]
     ·simp only[aW _ _ hj]
    ·simp only[flag];rw[S_ (by simpa using iu),aL];simp[bF]
   ·exact xz iu (by rw[hK];exact .inr ⟨rfl,.inr ⟨rfl,by simp only[GS.cT];omega⟩⟩)
 ·refine h.yj aH (k':=.last n') (a:=nZ p.Wg) hs aL (RF w hW) hd (.inr (.inr (.inr rfl))) (.inr rfl) (.inr ⟨_,rfl⟩) dG rfl (by rw[hK];rfl) rfl (by rw[hK];rfl) m1 ?_ (by rw[hK];exact .inl (by simp[GS.cT]));unfold Mode;have e1:sumTo gs.size (λi=>(upd K ic (.last n') i).cnt)=0:=by rw[kM K (.last n') GS.cnt (by rw[hK];rfl)];exact m5
  have e2:sumTo gs.size (λi=>(upd K ic (.last n') i).late)=0:=by rw[kM K (.last n') GS.late (by rw[hK];rfl)];exact m4
  simp only[e1,e2,bu];obtain⟨n,hn⟩:=m1;exact .inr (.inr (.inr (.inr (.inl ⟨⟨n,by rw[vr _ _ _ (Ne.symm qz)];exact hn⟩,m2,trivial,trivial,hW.abS 0,.inl rfl⟩))))
theorem Inv.apc(h:Inv P n0 W0 V gs w t K Im ic (some p) st)(aH:p.recv=true){n:Nat}{gi:SH}(aL:gs[ic]?=some gi)(hK:K ic=.said n)(jk:Dc P Im p.c p.Wg (UQ t ic) gi):f_ P n0 W0 V gs w sl t K Im ic (some p) st ic:=by
 obtain⟨s,hs,fU,iu,hm⟩:=h.mode aH;obtain⟨m1,m2,m3,mk⟩:=hm.NI (.inl (by rw[hK];rfl));obtain⟨hd,bF,g',aP,n',dG⟩:=jk;have m8:∀e∈#[jI (.write (nZ p.Wg))],e=jI (.write (nZ p.Wg)):=λe he=>by simpa using he
 have Ry:g'.status=.running:=cL.running (λd g x=>x.2.1) dG;refine h.sM aH (k':=.gL n') (s':=s) fU aL (aP w) (.inl (by rw[hd];exact dG)) (by rw[hK];exact FN Im) (λ_=>rfl) rfl (λj hj=>by rw[hK]at hj;cases hj) (.inl rfl) (λe he x hx=> .inr (.inl ?_)) (λe he=> ?_) (λe he a=> ?_) rfl (λ_ _ _=>rfl) rfl rfl rfl
  (mk (.inr rfl) rfl rfl (λ_ g hg=> ?_) iu) (.inl m1) ?_ (xz iu (by rw[hK];exact .inl (by simp[GS.cT])))
 ·rw[m8 e he]at hx;cases hx;exact⟨rfl,rfl,rfl⟩
 ·rw[m8 e he];exact h.low.2
 ·rw[m8 e he];simp[jI,Ts]
 ·rcases getElem?_next iu hg with⟨_,rfl⟩|⟨aC,_⟩
  ·exact Ry
  ·exact absurd rfl aC
 ·have hr:Rest p.Wg t K ic st:=h.out.2.2.1;rw[hs,m2]at hr;rw[m2];refine hr.app (λidx a ha hx=> .inr (hx.app (by obtain⟨op,au,_⟩:=US ha;exact TG au) λm _ _ hj=> .inl ?_)) (λidx a _ ⟨op,au,w6,_⟩ _=> .inr (.inr ⟨ic,?_,fU,.inr (.inl rfl)⟩))
  ·by_cases cO:m=ic
   ·subst cO;rw[hK]at hj;cases hj
   ·rw[aW _ _ cO];exact hj
  ·obtain⟨e,_,rfl⟩:=TL au;simp[Wz,w6]
end
end Go.Gg
