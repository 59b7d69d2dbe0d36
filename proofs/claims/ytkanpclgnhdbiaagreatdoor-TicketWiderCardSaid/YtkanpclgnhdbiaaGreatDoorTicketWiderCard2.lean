/- A part of the proof. -/
import Derived.Test.YtkanpclgnhdbiaaGreatDoorTicketWiderCard1
import Derived.Conc.Beside
import Derived.Conc.CrowdTrace
import Derived.Conc.CrowdComm
set_option linter.all false
set_option maxRecDepth 4000
set_option maxHeartbeats 4000000
open Array renaming getElem?_append_right->X7,getElem?_eq_getElem->SJ,getElem?_eq_some_iff->SR,getElem?_map->WA,getElem?_modify->Wd,getElem?_setIfInBounds_ne->SU,getElem?_setIfInBounds_self_of_lt->S_,getElem_mem->XU,mem_append->Uu,size_append->XB
open Bool renaming false_eq_true->TM
open Classical renaming byContradiction->Tt
open Go renaming Addr->U5,Code->T6,Deferred->UX,Event->Ur,FuncId->TS,Goroutine->SG,IntKind->TY,LoopState->Z6,MemOp->V_,Operand->Ti,Program->SI,ResultVar->UO,Touch->YJ,Trace->Un,Value->SO,World->To
open Go.BinOp renaming neq->Wt
open Go.Conc renaming Deaf->UT,Deaf_other->atO,Knows->Wi,QuitsD->Y5,act?_of->ae_,act?_old->X6,deaf_succ->Z_,getElem?_append_cases->Xj,getElem?_stand->X_,heard_old->Wo,knows_own->Zc,lt_of_act?->VZ,lt_size_of_getElem?->TG,mem_ofEvents->TL,mem_of_getElem?->XS,ofEvent_cell0->am',offersAt_of_not_blocked->UV,offersAt_ph->Zl,served->T7,touch_mute->ZS,touch_of->UU,woken_run->Yl
open Go.Conc.QuitsD renaming status->ZD
open Go.ConcN renaming le_sumTo->Wz,sumTo_congr->Vl
open Go.Event renaming mute->WC
open Go.GoStatus renaming blocked->atM
open Go.Goroutine renaming again->YT
open Go.IntKind renaming i64->SD
open Go.MemAct renaming low_mono->Zi,ofEvent->Tq,touch?->Wa
open Go.MemAct.mark renaming injEq->ag'
open Go.MemOp renaming ofEvents->Ta
open Go.Obj renaming deferred->atX
open Go.Op renaming equal->Xo
open Go.Proofs.Tryz renaming f107->ag2,f109->af',f89->ak',f97->asg,prog->SA
open Go.Trace renaming g?->Wx
open Go.Value renaming int->SF
open Go.World renaming cell?->UA,setCell->Xi
open Int renaming toNat->X9
open List renaming append_assoc->SC,append_nil->SN,cons_append->U1,drop->TR,drop_append->Vu,drop_append_of_le_length->Wn,drop_drop->aj',drop_eq_getElem_cons->TQ,drop_eq_nil_of_le->TW,drop_zero->Xy,ext_getElem?->Yo,flatMap_append->Vx,flatMap_cons->Ub,foldl->aa',foldl_append->ZL,foldl_cons->UY,getD_eq_getElem?_getD->SE,getElem?_append_left->SX,getElem?_append_right->S9,getElem?_drop->Uo,getElem?_eq_getElem->SY,getElem?_eq_some_iff->SL,getElem?_map->Tm,getElem?_set->UM,getElem?_set_ne->T8,getElem?_set_self->W7,getElem?_take->Uf,getElem_mem->Wr,getLastD_eq_getLast?->Vh,length_append->S4,length_drop->Ul,length_map->Tn,length_set->TC,map->U8,mapM_cons->Ua,mapM_nil->UC,map_append->TE,map_congr_left->Vz,map_cons->UW,map_drop->af_,map_flatMap->Vt,map_map->XY,map_singleton->Y9,map_take->VU,mem_append->SS,mem_append_left->Tf,mem_append_right->S0,mem_cons->SK,mem_flatMap->S6,mem_flatten->XK,mem_iff_getElem?->UQ,mem_map->Tl,mem_of_getElem?->Tc,mem_of_mem_take->Wq,mem_or_eq_of_mem_set->Up,mem_replicate->Xw,mem_singleton->S8,mem_toArray->TJ,nil_append->Uy,nodup_append->U7,not_mem_nil->SZ,range->SV,range'->Ud,range'_append_1->Y7,range'_succ->VR,range_eq_range'->Vp,range_succ->Vk,replicate->TF,replicate_succ->Ws,set_append_left->US,set_append_right->T_,set_cons_succ->UE,set_cons_zero->T1,set_eq_take_append_cons_drop->XM,set_set->W6,take->TH,take_add_one->VF,take_append_drop->Vg,take_append_of_le_length->Tw,take_length->TO,take_of_length_le->SP,take_set->Z1,take_succ->Ww,take_succ_cons->VQ,take_take->U3,take_zero->aj_
open List.Perm renaming refl->ab_
open Nat renaming add_sub_cancel->VW,add_sub_cancel_left->TU,add_zero->UD,eq_zero_or_pos->UF,le_of_eq->WE,le_refl->SQ,le_trans->UL,lt_of_lt_of_le->Td,lt_trans->Wl,reduceAdd->SW,strongRecOn->Yn,sub_self->Ve,sub_zero->ZV,zero_add->Wp
open Option renaming bind_eq_bind->TN,getD_some->S7,map_eq_some_iff->Tp,pure_def->Uj,toList_some->YN
open Option.some renaming inj->Wj,injEq->Tj
open Prod.mk renaming injEq->U2
namespace Go.Gg
open Go.Conc Go.Proofs Go.Gg.Tk
theorem JB{α:Type}(g:Nat->List α)(i:Nat):(SV (i+1)).flatMap g=(SV i).flatMap g++g i:=by
 rw[Vk,Vx];simp
theorem JA{α:Type}(g:Nat->List α){i n:Nat}(h:i<n):(SV n).flatMap g=(SV i).flatMap g++(g i++(Ud (i+1) (n-(i+1))).flatMap g):=by
 have:SV n=SV i++(i::Ud (i+1) (n-(i+1))):=by
  rw[Vp,Vp,<- VR];have:=Y7 (s:=0) (m:=i) (n:=n-(i+1)+1);rw[Wp]at this;rw[this];congr 1;omega
 rw[this,Vx,Ub]
theorem NC{α:Type}{l:List α}{i:Nat}{v:α}(h:i<l.length):(l.set i v).take (i+1)=l.take i++[v]:=by
 rw[Ww,Z1,UM,if_pos rfl,if_pos h,List.set_eq_of_length_le (by simp;omega)];rfl
namespace Tk
def iX (h:List Int)(hour j:Nat)(n:Int):List Int:=h.take hour++TF j n++h.drop (hour+j)
theorem ES{h:List Int}{hour j:Nat}{n:Int}(hj:hour+j<=h.length):(iX h hour j n).length=h.length:=by simp[iX];omega
theorem aiy(h:List Int)(hour:Nat)(n:Int):iX h hour 0 n=h:=by simp[iX]
theorem Js{h:List Int}{hour j:Nat}{n:Int}(hj:hour+j<h.length):(iX h hour j n).set (hour+j) n=iX h hour (j+1) n:=by
 unfold iX;have hl:(h.take hour++TF j n).length=hour+j:=by simp;omega
 rw[T_ _ _ (by omega),hl,Ve,List.replicate_succ'];rw[TQ hj,T1,SC,SC,SC];rfl
theorem aix{h:List Int}{hour j:Nat}{n:Int}(hn:h[hour]?=some n)(hj:hour+j<=h.length):(iX h hour j n)[hour]?=some n:=by
 have hl:=eI hn;unfold iX;rw[SC,S9 (by simp;omega)];have:hour-(h.take hour).length=0:=by simp;omega
 rw[this];cases j with
 |zero=>simpa using hn
 |succ j=>simp[Ws]
theorem aiw{h pre:List Int}{hour:Nat}{n:Int}(h4:h.length=4)(hn:h[hour]?=some n)(hp:pre=h.take (hour+1)):iX h hour (4-hour) n=cH pre:=by
 have hl:=eI hn;have e:pre=h.take hour++[n]:=by rw[hp,Ww,hn];rfl
 unfold iX cH;rw[TW (by omega),SN,e];have h1:(h.take hour++[n]).length=hour+1:=by simp;omega
 rw[h1,show (h.take hour++[n]).getLastD 0=n by simp[Vh],SC];congr 1;rw[show 4-hour=(4-(hour+1))+1 by omega,Ws];rfl
theorem abI{h pre:List Int}{hour:Nat}{n:Int}(hn:h[hour]?=some n)(hp:pre=h.take (hour+1)):pre.length=hour+1/\pre.getLastD 0=n:=by
 have hl:=eI hn;have e:pre=h.take hour++[n]:=by rw[hp,Ww,hn];rfl
 subst e;exact⟨by simp;omega,by simp[Vh]⟩
end Tk
open Go.Conc Go.Proofs Go.Gg.Tk
section
variable {lv:Bool}
def p7 (yv:AV)(N ir it:Nat)(h:List Int):List aa:=[.cells [yv] 130,.cells (h.map iv) 83,.cells [.fn (.func 87) [] [.op ir 0,.op (N+1) 0]] 68,.cells [.fn (.func 89) [] [.op (N+2) 0,.op ir 0,.op (N+1) 0,.op N 0,.op it 0,.op (N+3) 0]] 68]
theorem aij{x:ak}{bk N ir it:Nat}{yv pv:AV}{S:Type}{f:S->List Int->dA S}{Gf:S->List aa}{I:S->Prop}{A:List Int->Prop}(hx:x.Ok)(hY:jC lv SA yv f Gf N I A pv)(hr:∀σ L,(Gf σ++L)[ir]?=some (.cells x.l 76))(ht:∀σ L,(Gf σ++L)[it]?=some (.cells [iv bk] 3))(lF:bk<=3):
  ∀(d hour:Nat)(h pre:List Int)(n0:Int)(σ:S)(M:List aa)(k kp:AV->List aa->Prop),d+hour=x.hours.toNat->h.length=4->h[hour]?=some n0->(0<=n0/\n0<=90+3* hour)->pre=h.take (hour+1)->I σ->(∀a∈mC x bk d pre,A a)->
   (∀h',h'.length=4->h'.take (hour+1)=pre->cV Gf pv k kp (p7 yv N ir it h'++M) (bD f (mC x bk d pre) σ))->
   bm lv SA 89 (Gf σ++(p7 yv N ir it h++M)) [iv hour,.op (N+2) 0,.op ir 0,.op (N+1) 0,.op N 0,.op it 0,.op (N+3) 0] k kp:=by
 intro d;induction d with
 |zero=>
  intro hour h pre n0 σ M k kp oV h4 ou hb hp hI hA hk;refine bG (rs:=[.tmp 8]) (nt:=61) ak' λhH ug=> ?_;simp only[br,SW];obtain⟨da,ux⟩:=abI ou hp;have oX:hour<4:=by have:=eI ou;omega
  have FJ:=hx.hours;have bM:x.l=[iv x.first,iv x.hours,iv x.an,dC x.seen,aT x.pieces,aT x.aC]:=rfl;have g0:∀(σ:S)(L:List aa),(Gf σ++L)[N]?=L[0]?:=λσ L=>hY.get σ L 0;have g1:∀(σ:S)(L:List aa),(Gf σ++L)[N+1]?=L[1]?:=λσ L=>hY.get σ L 1;have g2:∀(σ:S)(L:List aa),(Gf σ++L)[N+2]?=L[2]?:=λσ L=>hY.get σ L 2;have s1:∀(σ:S)(L:List aa) x,(Gf σ++L).set (N+1) x=Gf σ++L.set 1 x:=λσ L x=>hY.set σ L 1 x;rw[mC,da,ux,VW]at hA hk;refine am ?_;refine aj ?_;simp only[seval,g2,p7];refine aL ((P5 (x:=x) (h:=h) (n:=n0) hx h4 ou (hr _ _) (by rw[g1];rfl) ?_));(try simp only[seval]);refine aF ?_;refine⟨λhs=> ?_,λhs=> ?_⟩
  ·refine am ?_;refine bi ?_;have:=hk h h4 hp.symm;rw[hs]at this;simp only[TM,if_false,bD,cV]at this;exact bX this
  ·rw[if_pos hs]at hA hk;rw[Nh]at hk;have Ru:(hour:Int)=x.hours:=(by omega);refine aO ?_;refine aj ?_;simp only[seval,hr,bM];refine aF ?_;refine⟨λhc=> ?_,λhc=>by exfalso;simp at hc;omega⟩;refine am ?_;refine cP ?_;refine iu (4-hour) (λj:Nat=>[(9,iv ((hour+j:Nat):Int))]) (λj=>Gf σ++(p7 yv N ir it (iX h hour j n0)++M)) (λj=>True) (λ_ _=>rfl) (by simp only[seval];simp[bC,Wk.refl]) (by rw[aiy];rfl) (λm _ _=>by simp[p7]) trivial (λcq dG j oZ hj R hR=> ?_);refine am ?_;refine aF ?_;refine⟨λhc=> ?_,λhc=> ?_⟩
   ·have eX:j<4-hour:=(by omega);have bb:(0<=(hour:Int)/\(hour:Int)<4)=True:=(by simp;omega);have bj:(0<=(hour:Int)+(j:Int)/\(hour:Int)+(j:Int)<4)=True:=(by simp;omega);have xQ:((hour:Int)+(j:Int)).toNat=hour+j:=(by omega);have lW:(iX h hour j n0).length=4:=(by rw[ES (by omega),h4]);have lX:(U8 iv (iX h hour j n0)).length=4:=(by rw[Tn,lW]);have hw:SD.wrap ((hour:Int)+(j:Int)+1)=(hour:Int)+((j+1:Nat):Int):=(by rw[bB _ (by omega)];push_cast;omega);refine aO ?_;refine aj ?_;simp only[seval,g1,s1,p7,bb,bj,xQ,lX,kG (aix ou (show hour+j<=h.length by omega))];refine⟨by omega,?_⟩;rw[wB (by omega),Js (by omega)];refine aj ?_;simp only[seval,hw];exact hR _ ⟨eX,trivial,dF⟩
   ·have:j=4-hour:=(by omega);subst this;have FZ:=aiw h4 ou hp;rw[FZ];have FY:(cH pre).length=4:=(by rw[<- FZ,ES (by omega),h4]);have rz:((cH pre).map iv).length=4:=(by rw[Tn,FY]);have ny:(cH pre).take (hour+1)=pre:=(by unfold cH;rw[Tw (by omega),SP (by omega)]);refine cp ?_;refine aj ?_;simp only[seval,g0,g1,p7,rz];rw[SP (i:=4) (l:=(cH pre).map iv) (by rw[rz];exact SQ _)];refine w_ (hY.call σ (cH pre) (p7 yv N ir it (cH pre)++M) _ _ hI (hA _ (by simp)) ?_);have aJ:=hk (cH pre) FY ny;cases hf:f σ (cH pre)with
    |go σ'=>
     rw[hf]at aJ;simp only[cV]at aJ⊢;(try simp only[seval]);refine bi ?_;exact bX aJ
    |stop σ'=>
     rw[hf]at aJ;simp only[cV]at aJ⊢;(try simp only[seval]);refine bi ?_;exact bX aJ
    |bad σ'=>
     rw[hf]at aJ;simp only[cV]at aJ⊢;exact bX aJ
 |succ d ih=>
  intro hour h pre n0 σ M k kp oV h4 ou hb hp hI hA hk;refine bG (rs:=[.tmp 8]) (nt:=61) ak' λhH ug=> ?_;simp only[br,SW];obtain⟨da,ux⟩:=abI ou hp;have FJ:=hx.hours;have hpr:=hx.an;have Rt:hour<3:=by omega
  have bM:x.l=[iv x.first,iv x.hours,iv x.an,dC x.seen,aT x.pieces,aT x.aC]:=rfl;have g1:∀(σ:S)(L:List aa),(Gf σ++L)[N+1]?=L[1]?:=λσ L=>hY.get σ L 1;have g2:∀(σ:S)(L:List aa),(Gf σ++L)[N+2]?=L[2]?:=λσ L=>hY.get σ L 2;have g3:∀(σ:S)(L:List aa),(Gf σ++L)[N+3]?=L[3]?:=λσ L=>hY.get σ L 3;have s1:∀(σ:S)(L:List aa) x,(Gf σ++L).set (N+1) x=Gf σ++L.set 1 x:=λσ L x=>hY.set σ L 1 x;rw[mC,da,ux,VW]at hA hk;refine am ?_;refine aj ?_;simp only[seval,g2,p7];refine aL ((P5 (x:=x) (h:=h) (n:=n0) hx h4 ou (hr _ _) (by rw[g1];rfl) ?_));(try simp only[seval]);refine aF ?_;refine⟨λhs=> ?_,λhs=> ?_⟩
  ·refine am ?_;refine bi ?_;have:=hk h h4 hp.symm;rw[hs]at this;simp only[TM,if_false,bD,cV]at this;exact bX this
  ·rw[if_pos hs]at hA hk;have Ru:¬(hour:Int)=x.hours:=(by omega);refine aO ?_;refine aj ?_;simp only[seval,hr,bM];refine aF ?_;refine⟨λhc=>by exfalso;exact Ru hc,λhc=> ?_⟩;refine aO ?_;refine aj ?_;simp only[seval,hr,bM,bB (x.an+1) (by omega)];generalize hg:(λn:Nat=>if hour+1=1/\n≠bk then[]else mC x bk d (pre++[n0+(n:Int)]))=g at hA hk;refine cP ?_;refine y8 (measure λm:Nat×S×List Int=>(x.an.toNat+1)-m.1).wf (λm=>[(37,iv (m.1:Nat))]) (λm=>Gf m.2.1++(p7 yv N ir it m.2.2++M)) (λm=>m.1<=x.an.toNat+1/\bD f ((SV m.1).flatMap g) σ=.go m.2.1/\m.2.2.length=4/\m.2.2.take (hour+1)=pre) (0,σ,h) (λ_ _=>rfl) (by intro p hp;simp at hp;subst hp;exact⟨_,rfl,Wk.refl _⟩) rfl (λ_ _=>by simp[p7,hY.len]) ⟨by omega,rfl,h4,hp.symm⟩ (λcq dG m ay R hR=> ?_);obtain⟨i,τ,hq⟩:=m;obtain⟨hi,bI,z9,Aa⟩:=ay;replace hi:i<=x.an.toNat+1:=hi;replace bI:bD f ((SV i).flatMap g) σ=.go τ:=bI;replace z9:hq.length=4:=z9;replace Aa:hq.take (hour+1)=pre:=Aa;have z_:hq[hour]?=some n0:=by
    have h1:(hq.take (hour+1))[hour]?=some n0:=(by rw[Aa,hp,Uf,if_pos (by omega)];exact ou);rwa [Uf,if_pos (by omega)]at h1
   refine am ?_;refine aF ?_;refine⟨λhc=> ?_,λhc=> ?_⟩
   ·have bF:i<x.an.toNat+1:=(by omega);have bP:SD.wrap ((i:Int)+1)=((i+1:Nat):Int):=(by rw[bB _ (by omega)];rfl);have rC:=JA g bF;have s9:=JB g i;have B9:I τ:=AF (A:=A) hY.inv _ σ τ (λa ha=>hA a (by rw[rC];exact Tf _ ha)) hI bI;refine aO ?_;refine am ?_;have hqm:(U8 iv hq).length=4:=(by rw[Tn,z9]);have bb:(0<=(hour:Int)/\(hour:Int)<4)=True:=(by simp;omega);have bb1:(0<=(hour:Int)+1/\(hour:Int)+1<4)=True:=(by simp;omega);have o4:((hour:Int)+1).toNat=hour+1:=(by omega);have hwh:SD.wrap ((hour:Int)+1)=(hour:Int)+1:=bB _ (by omega);have LD:SD.wrap (n0+(i:Int))=n0+(i:Int):=bB _ (by omega);refine aj ?_;simp only[seval,ht];refine xp (λh2=> ?ga) (λh2=> ?gb)
    case' ga=>
     (try simp only[seval,ht]);refine aF ?_;refine⟨λh3=> ?gc,λh3=> ?gd⟩
     case gc=>
      have aM:g i=[]:=(by rw[<- hg];exact if_pos ⟨by simp at h2;omega,by omega⟩);refine cp ?_;refine aj ?_;simp only[seval,bP];exact hR _ ⟨(i+1,τ,hq),(by show x.an.toNat+1-(i+1)<x.an.toNat+1-i;omega),⟨by omega,by rw[s9,aM,SN];exact bI,z9,Aa⟩,dF⟩
    case' gb=>
     (try simp only[seval]);refine aF ?_
    all_goals
     have aM:g i=mC x bk d (pre++[n0+(i:Int)]):=by
      rw[<- hg];refine if_neg ?_
      rintro⟨q1,q2⟩
      first|(simp at h3;omega)|(simp at h2;omega)
     refine aO ?_;refine aj ?_;simp only[seval,g1,s1,p7,bb,bb1,o4,hwh,LD,hqm,kG z_];refine⟨by omega,?_⟩;rw[wB (show hour+1<hq.length by omega)];refine aj ?_;simp only[seval,g3,hwh];have akP:(hq.set (hour+1) (n0+(i:Int))).length=4:=(by rw[TC,z9]);have hqt:pre++[n0+(i:Int)]=(hq.set (hour+1) (n0+(i:Int))).take (hour+1+1):=(by rw[NC (by omega),Aa]);refine aL ((ih (hour+1) (hq.set (hour+1) (n0+(i:Int))) (pre++[n0+(i:Int)]) (n0+(i:Int)) τ M _ _ (by omega) akP (by rw[UM,if_pos rfl,if_pos (by omega)]) (by omega) hqt B9 (λa ha=>hA a (by rw[rC,aM];exact S0 _ (Tf _ ha))) (λh' qY akO=> ?_)));have Ld:h'.take (hour+1)=pre:=by
      have e:h'.take (hour+1)=(h'.take (hour+1+1)).take (hour+1):=(by rw[U3];congr 1;omega);rw[e,akO,Tw (WE da.symm),SP (WE da)]
     have Ai:bD f ((SV (x.an.toNat+1)).flatMap g) σ=match bD f (g i) τ with
       |.go s'=>bD f ((Ud (i+1) (x.an.toNat+1-(i+1))).flatMap g) s'
       |r=>r:=by
      rw[rC,qw,bI];exact qw f (g i) _ τ
     rw[<- aM];cases hf:bD f (g i) τ with
     |go τ'=>
      simp only[cV];(try simp only[seval]);refine aF ?_;refine aO ?_;refine aj ?_;simp only[seval,bP];exact hR _ ⟨(i+1,τ',h'),(by show x.an.toNat+1-(i+1)<x.an.toNat+1-i;omega),⟨by omega,by rw[s9,qw,bI];exact hf,qY,Ld⟩,dF⟩
     |stop τ'=>
      simp only[cV];(try simp only[seval]);refine aF ?_;refine am ?_;refine bi ?_;have aJ:=hk h' qY Ld;rw[Ai,hf]at aJ;exact bX aJ
     |bad τ'=>
      simp only[cV];have aJ:=hk h' qY Ld;rw[Ai,hf]at aJ;exact bX aJ
   ·have du:i=x.an.toNat+1:=(by omega);subst du;have aJ:=hk hq z9 Aa;rw[bI]at aJ;refine cp ?_;refine am ?_;refine bi ?_;exact bX aJ
theorem uY{P:SI}{yv pv:AV}{S:Type}{f:S->List Int->dA S}{Gf:S->List aa}{N:Nat}{I:S->Prop}{A:List Int->Prop}{k:AV->List aa->Prop}(hY:jC lv P yv f Gf N I A pv){σ σ':S}{L:List aa}{a:AV}(hH:bH (Gf σ))(ha:∀n,Lt n a)(hk:k a (Gf σ')):cC (Gf σ).length (Gf σ'++L) a k:=by
 refine jH (H':=Gf σ') (Wk.refl _) rfl (by rw[hY.len,hY.len];exact SQ _) ?_ (ha _) hk;have:=hY.ay (σ:=σ) (M:=[]) (by simpa using hH) σ';simpa using this
theorem Jm{H:List aa}{k kp:AV->List aa->Prop}{x:ak}{n:Int}(hk:k (.fn (.func 86) [] [.op H.length 0,.op (H.length+1) 0]) (H++[.cells x.l 76,.cells [iv n] 3])):bm lv SA 64 H [x.av,iv n] k kp:=by
 refine bG (rs:=[.tmp 4]) (nt:=6) Tryz.f64 λhH hA=> ?_;simp only[br,SW,ak.av];refine am ?_;refine aj ?_;simp only[seval,Ua,UC,Uj,TN];refine bi ?_;exact bX hk
theorem Jp{x:ak}{bk N ir it:Nat}{yv pv:AV}{S:Type}{f:S->List Int->dA S}{Gf:S->List aa}{I:S->Prop}{A:List Int->Prop}{σ:S}{k kp:AV->List aa->Prop}(hx:x.Ok)(hY:jC lv SA yv f Gf N I A pv)(hr:∀σ L,(Gf σ++L)[ir]?=some (.cells x.l 76))(ht:∀σ L,(Gf σ++L)[it]?=some (.cells [iv bk] 3))(lF:bk<=3)
  (lZ:∀n,Lt n pv) (hI:I σ) (hA:∀a∈kq x bk,A a) (hk:fS Gf pv k kp [] (bD f (kq x bk) σ)):bm lv SA 86 (Gf σ) [yv,.op ir 0,.op it 0] k kp:=by
 refine bG (rs:=[]) (nt:=15) Tryz.f86 λhH ug=> ?_;simp only[br,SW];have hN:=hY.len σ;have bM:x.l=[iv x.first,iv x.hours,iv x.an,dC x.seen,aT x.pieces,aT x.aC]:=rfl;refine aj ?_;simp only[seval,hY.parts];refine am ?_;refine aj ?_;simp only[seval,Ua,UC,Uj,TN];refine am ?_;refine aj ?_;simp only[seval,Ua,UC,Uj,TN];refine aj ?_;simp only[seval,hr,bM];refine am ?_;have h0:=hx.first;have hh:=hx.hours;have Lc:[x.first]=TH (0+1) [x.first,0,0,0]:=rfl;refine aL (?_);rw[hN];refine aij (x:=x) (bk:=bk) hx hY hr ht lF x.hours.toNat 0 [x.first,0,0,0] [x.first] x.first σ [] _ _ rfl rfl rfl (by omega) Lc hI hA (λh' qY zZ=> ?_);change cV Gf pv _ _ _ (bD f (kq x bk) σ);have rM:∀n,Lt n (.aN []):=λn=>by simp[jx]
 cases hf:bD f (kq x bk) σ with
 |go s=>
  rw[hf]at hk;simp only[cV,fS]at hk⊢;rw[SN]at hk;(try simp only[seval]);rw[<- hN];exact uY hY hH rM hk
 |stop s=>
  rw[hf]at hk;simp only[cV,fS]at hk⊢;rw[SN]at hk;(try simp only[seval]);rw[<- hN];exact uY hY hH rM hk
 |bad s=>
  rw[hf]at hk;simp only[cV,fS]at hk⊢;rw[SN]at hk;rw[<- hN];exact uY hY hH lZ hk
end
theorem PG{α:Type}{l:List α}{i j:Nat}{v:α}(h:i<j):(l.set i v).drop j=l.drop j:=by
 apply Yo;intro k;rw[Uo,Uo,T8 (by omega)]
theorem zk{α:Type}{g:α->AV}{xs:List α}{i:Nat}{x:α}(h:xs[i]?=some x):(xs.map g).drop i=g x::(xs.drop (i+1)).map g:=by
 rw[<- af_,vE h,UW]
namespace Tk
def ac1 (k:Nat):List Int:=TF (4-k) (-1)++[-1, -1, -1]
structure oJ (h:List Int)(k p:Nat)(t:List Nat)(tc:List Int):Prop where
 len:tc.length=11
 pre:tc.take (4+p)=h++t.map λn:Nat=>(n:Int)
 tl:tc.drop (4+k)=ac1 k
theorem oJ.all{h:List Int}{k:Nat}{t:List Nat}{tc:List Int}(ht:t.length=k)(n:oJ h k k t tc):tc=dQ h t:=by
 have:=Vg (4+k) tc;rw[n.pre,n.tl]at this;rw[<- this];unfold dQ kY ac1;rw[ht];simp[SC]
theorem oJ.back{h:List Int}{k p:Nat}{t:List Nat}{n:Nat}{tc:List Int}(h4:h.length=4)(ht:t.length=p)(q:oJ h k (p+1) (t++[n]) tc):oJ h k p t tc:=by
 refine⟨q.len,?_,q.tl⟩;have e:tc.take (4+p)=(tc.take (4+(p+1))).take (4+p):=by rw[U3];congr 1;omega
 rw[e,q.pre,TE,<- SC,Tw (by simp[h4,ht]),SP (by simp[h4,ht])]
theorem oJ.next{h:List Int}{k p:Nat}{t:List Nat}{n:Nat}{tc:List Int}(hp:p<k)(hk:k<=4)(q:oJ h k p t tc):oJ h k (p+1) (t++[n]) (tc.set (4+p) (n:Int)):=by
 refine⟨by rw[TC];exact q.len,?_,?_⟩
 ·rw[show 4+(p+1)=(4+p)+1 by omega,NC (by rw[q.len];omega),q.pre];simp
 ·rw[PG (by omega)];exact q.tl
theorem ank{h:List Int}{q:Nat}{qs:List Nat}{u:Nat}{t:List Nat}:(kz (q::qs) u t).map (dQ h)=(SV 9).flatMap λn=>if u.testBit n|| !q.testBit n then[]else(kz qs (u|||2^n) (t++[n])).map (dQ h):=by
 rw[kz,Vt];congr 1;funext n;split<;>rfl
end Tk
section
variable {lv:Bool}
def tr (yv:AV)(N ir:Nat)(ps:List Nat)(tc:List Int):List aa:=[.cells [yv] 132,.cells (tc.map iv) 86,.cells (ps.map λn=>wv n) 80,.cells [.fn (.func 107) [] [.op ir 0,.op N 0,.op (N+1) 0,.op (N+2) 0,.op (N+3) 0]] 157]
theorem ahw{x:ak}{h ps N ir:_}{yv pv:AV}{S:Type}{f:S->List Int->dA S}{Gf:S->List aa}{I:S->Prop}{A:List Int->Prop}(hx:x.Ok)(h4:h.length=4)(hY:jC lv SA yv f Gf N I A pv)(hr:∀σ L,(Gf σ++L)[ir]?=some (.cells x.l 76))(o6:ps=x.pieces.map (bU h)++TF (4-x.pieces.length) 0):
  ∀(d p u:Nat)(t:List Nat)(tc:List Int)(σ:S)(M:List aa)(k kp:AV->List aa->Prop),d+p=x.pieces.length->u<65536->t.length=p->oJ h x.pieces.length p t tc->I σ->(∀a∈(kz ((x.pieces.map (bU h)).drop p) u t).map (dQ h),A a)->
   (∀d_,oJ h x.pieces.length p t d_->cV Gf pv k kp (tr yv N ir ps d_++M) (bD f ((kz ((x.pieces.map (bU h)).drop p) u t).map (dQ h)) σ))->
   bm lv SA 107 (Gf σ++(tr yv N ir ps tc++M)) [iv p,wv u,.op ir 0,.op N 0,.op (N+1) 0,.op (N+2) 0,.op (N+3) 0] k kp:=by
 intro d;induction d with
 |zero=>
  intro p u t tc σ M k kp Kl hu ht hT hI hA hk;refine bG (rs:=[.tmp 9]) (nt:=47) ag2 λhH ug=> ?_;simp only[br,SW];have bM:x.l=[iv x.first,iv x.hours,iv x.an,dC x.seen,aT x.pieces,aT x.aC]:=rfl;have g0:∀(σ:S)(L:List aa),(Gf σ++L)[N]?=L[0]?:=λσ L=>hY.get σ L 0;have g1:∀(σ:S)(L:List aa),(Gf σ++L)[N+1]?=L[1]?:=λσ L=>hY.get σ L 1;have da:p=x.pieces.length:=by omega
  have vT:(x.pieces.map (bU h)).drop p=[]:=TW (by simp;omega);rw[vT,kz]at hA hk;rw[Y9]at hA hk;rw[Nh]at hk;have xZ:tc=dQ h t:=by subst da;exact hT.all ht
  have jS:(tc.map iv).length=11:=by rw[Tn,hT.len]
  refine am ?_;(repeat apply iF);refine OQ ?_;refine aj ?_;simp only[seval,hr,bM,aT];refine aF ?_;refine⟨λhc=> ?_,λhc=>by exfalso;simp at hc;omega⟩;refine aj ?_;simp only[seval,g0,g1,tr,jS];rw[SP (i:=11) (l:=tc.map iv) (by rw[jS];exact SQ _)];rw[<- xZ]at hA hk;have aJ:=hk tc hT;refine w_ (hY.call σ tc (tr yv N ir ps tc++M) _ _ hI (hA _ (by simp)) ?_);cases hf:f σ tc with
  |go σ'=>
   rw[hf]at aJ;simp only[cV]at aJ⊢;(try simp only[seval]);refine bi ?_;exact bX aJ
  |stop σ'=>
   rw[hf]at aJ;simp only[cV]at aJ⊢;(try simp only[seval]);refine bi ?_;exact bX aJ
  |bad σ'=>
   rw[hf]at aJ;simp only[cV]at aJ⊢;exact bX aJ
 |succ d ih=>
  intro p u t tc σ M k kp Kl hu ht hT hI hA hk;refine bG (rs:=[.tmp 9]) (nt:=47) ag2 λhH ug=> ?_;simp only[br,SW];have bM:x.l=[iv x.first,iv x.hours,iv x.an,dC x.seen,aT x.pieces,aT x.aC]:=rfl;have g1:∀(σ:S)(L:List aa),(Gf σ++L)[N+1]?=L[1]?:=λσ L=>hY.get σ L 1;have g2:∀(σ:S)(L:List aa),(Gf σ++L)[N+2]?=L[2]?:=λσ L=>hY.get σ L 2;have g3:∀(σ:S)(L:List aa),(Gf σ++L)[N+3]?=L[3]?:=λσ L=>hY.get σ L 3;have s1:∀(σ:S)(L:List aa) x,(Gf σ++L).set (N+1) x=Gf σ++L.set 1 x:=λσ L x=>hY.set σ L 1 x;have lz:=hx.dY;have FY:p<4:=by omega
  obtain⟨y,hy⟩:=cj (xs:=x.pieces) (i:=p) (by omega);have uI:(x.pieces.map (bU h))[p]?=some (bU h y):=by rw[Tm,hy];rfl
  have nw:ps[p]?=some (bU h y):=by rw[o6,SX (by simp;omega)];exact uI
  have l5:bU h y<65536:=Wl (Qb h y) (by decide);have aI:¬(p:Int)=(x.pieces.length:Int):=by omega
  rw[vE uI,ank]at hA hk;generalize hg:(λn=>if u.testBit n|| !(bU h y).testBit n then[]else(kz ((x.pieces.map (bU h)).drop (p+1)) (u|||2^n) (t++[n])).map (dQ h))=g at hA hk;refine am ?_;(repeat apply iF);refine OQ ?_;refine aj ?_;simp only[seval,hr,bM,aT];refine aF ?_;refine⟨λhc=>by exfalso;exact aI (by simpa using hc),λhc=> ?_⟩;refine aO ?_;(repeat apply iF);refine OH ?_;simp only[seval];refine am ?_;refine cP ?_;refine y8 (measure λm:Nat×S×List Int=>9-m.1).wf (λm=>[(20,iv (m.1:Nat))]) (λm=>Gf m.2.1++(tr yv N ir ps m.2.2++M)) (λm=>m.1<=9/\bD f ((SV m.1).flatMap g) σ=.go m.2.1/\oJ h x.pieces.length p t m.2.2) (0,σ,tc) (λ_ _=>rfl) (by intro p hp;simp at hp;subst hp;exact⟨_,rfl,Wk.refl _⟩) rfl (λ_ _=>by simp[tr,hY.len]) ⟨by omega,rfl,hT⟩ (λcq dG m ay R hR=> ?_);obtain⟨i,τ,tq⟩:=m;obtain⟨hi,bI,ln⟩:=ay;replace hi:i<=9:=hi;replace bI:bD f ((SV i).flatMap g) σ=.go τ:=bI;replace ln:oJ h x.pieces.length p t tq:=ln;refine am ?_;refine aF ?_;refine⟨λhc=> ?_,λhc=> ?_⟩
  ·have bF:i<9:=(by omega);have bP:SD.wrap ((i:Int)+1)=((i+1:Nat):Int):=(by rw[bB _ (by omega)];rfl);have rC:=JA g bF;have s9:=JB g i;have B9:I τ:=AF (A:=A) hY.inv _ σ τ (λa ha=>hA a (by rw[rC];exact Tf _ ha)) hI bI;have b4:(0<=(p:Int)/\(p:Int)<4)=True:=(by simp;omega);have DI:(u.testBit i|| !(bU h y).testBit i)=true->g i=[]:=λe=>(by rw[<- hg];exact if_pos e);have JI:(u.testBit i|| !(bU h y).testBit i)=false->g i=(kz ((x.pieces.map (bU h)).drop (p+1)) (u|||2^i) (t++[i])).map (dQ h):=λe=>(by rw[<- hg];exact if_neg (by rw[e];simp));refine aO ?_;refine am ?_;refine aj ?_;simp only[seval,g2,tr,b4,zk nw];refine aL ((xh hu ?_));(try simp only[seval,g2,tr,b4,zk nw]);refine xp (λh2=> ?_) (λh2=> ?_)
   ·(try simp only[seval,g2,tr,b4,zk nw]);refine aL ((xh l5 ?_));(try simp only[seval]);refine aF ?_;refine⟨λh3=> ?_,λh3=> ?_⟩
    ·have aM:=DI (by rw[h2];simpa using h3);refine cp ?_;refine aj ?_;simp only[seval,bP];exact hR _ ⟨(i+1,τ,tq),(by show 9-(i+1)<9-i;omega),⟨by omega,by rw[s9,aM,SN];exact bI,ln⟩,dF⟩
    ·have aM:=JI (by rw[h2];simpa using h3);have jS:(tq.map iv).length=11:=(by rw[Tn,ln.len]);have IC:4+p<tq.length:=(by rw[ln.len];omega);have Gj:SD.wrap ((p:Int)+1)=((p+1:Nat):Int):=(by rw[bB _ (by omega)];rfl);refine aO ?_;refine aj ?_;simp only[seval,g1,s1,tr,b4];refine⟨by omega,?_⟩;rw[wB IC];refine eM 6 ?_;simp only[seval,g3,Gj];refine ik (wv (u|||2^i)) (c9 (ue hu (show i<16 by omega) ⟨rfl,rfl⟩)) ?_;rw[Gj];have lG:u|||2^i<65536:=pw hu (wG (by omega));refine aL ((ih (p+1) (u|||2^i) (t++[i]) (tq.set (4+p) (i:Int)) τ M _ _ (by omega) lG (by simp[ht]) (ln.next (by omega) lz) B9 (λa ha=>hA a (by rw[rC,aM];exact S0 _ (Tf _ ha))) (λd_ sJ=> ?_)));have Cb:=sJ.back h4 ht;have Ai:bD f ((SV 9).flatMap g) σ=match bD f (g i) τ with
       |.go s'=>bD f ((Ud (i+1) (9-(i+1))).flatMap g) s'
       |r=>r:=by
      rw[rC,qw,bI];exact qw f (g i) _ τ
     rw[<- aM];have aJ:=hk d_ Cb;rw[Ai]at aJ;cases hf:bD f (g i) τ with
     |go τ'=>
      simp only[cV];(try simp only[seval]);refine aF ?_;refine aO ?_;refine aj ?_;simp only[seval,bP];exact hR _ ⟨(i+1,τ',d_),(by show 9-(i+1)<9-i;omega),⟨by omega,by rw[s9,qw,bI];exact hf,Cb⟩,dF⟩
     |stop τ'=>
      rw[hf]at aJ;simp only[cV]at aJ⊢;(try simp only[seval]);refine aF ?_;refine am ?_;refine bi ?_;exact bX aJ
     |bad τ'=>
      rw[hf]at aJ;simp only[cV]at aJ⊢;exact bX aJ
   ·(try simp only[seval]);refine aF ?_;have aM:=DI (by rw[show u.testBit i=true by simpa using h2];rfl);refine cp ?_;refine aj ?_;simp only[seval,bP];exact hR _ ⟨(i+1,τ,tq),(by show 9-(i+1)<9-i;omega),⟨by omega,by rw[s9,aM,SN];exact bI,ln⟩,dF⟩
  ·have du:i=9:=(by omega);subst du;have aJ:=hk tq ln;rw[bI]at aJ;refine cp ?_;refine am ?_;refine bi ?_;exact bX aJ
end
open Go.Conc Go.Proofs Go.Gg.Tk
theorem Np{α:Type}{g:α->AV}{xs:List α}{i:Nat}{y:α}(h:i<xs.length):(xs.map g).take i++[g y]++(xs.map g).drop (i+1)=(xs.set i y).map g:=by
 rw[List.map_set,XM,if_pos (by simpa using h)];simp
namespace Tk
def pK (l:List Nat)(i:Nat):List Nat:=l.take i++TF (4-i) 0
theorem afN{l:List Nat}{i q:Nat}(h:l[i]?=some q)(hl:l.length<=4):(pK l i).set i q=pK l (i+1):=by
 have hi:=eI h;unfold pK;rw[T_ _ _ (by simp;omega),show i-(l.take i).length=0 by simp;omega,show 4-i=(4-(i+1))+1 by omega,Ws,T1,Ww,h];simp
theorem afM{l:List Nat}{i:Nat}(hi:i<=l.length)(hl:l.length<=4):(pK l i).length=4:=by simp[pK];omega
theorem afL{l:List Nat}:pK l l.length=l++TF (4-l.length) 0:=by simp[pK]
end Tk
theorem R_{H L:List aa}{c c':aa}(h:bH (H++(L++[c])))(hc:∀n,eK n c'):bH (H++(L++[c'])):=λz hz=>by
 have hl:(H++(L++[c'])).length=(H++(L++[c])).length:=by simp
 rw[hl];rcases SS.1 hz with h'|h'
 ·exact h z (Tf _ h')
 ·rcases SS.1 h' with h'|h'
  ·exact h z (S0 _ (Tf _ h'))
  ·rw[S8.1 h'];exact hc _
theorem abp(l:List Nat)(t n:Nat):eK n (.cells (l.map λn=>wv n) t):=by
 intro a ha;obtain⟨x,_,rfl⟩:=Tl.1 ha;exact .val _
theorem anz(l:List Int)(t n:Nat):eK n (.cells (l.map iv) t):=by
 intro a ha;obtain⟨x,_,rfl⟩:=Tl.1 ha;exact .val _
section
variable {lv:Bool}
theorem aik{H:List aa}{k kp:AV->List aa->Prop}{x:ak}{h:List Int}(hk:k (.fn (.func 106) [] [.op (H.length+1) 0,.op H.length 0]) (H++[.cells x.l 76,.cells (h.map iv) 83])):bm lv SA 92 H [x.av,.agg (h.map iv)] k kp:=by
 refine bG (rs:=[.tmp 4]) (nt:=6) Tryz.f92 λhH hA=> ?_;simp only[br,SW,ak.av];refine am ?_;refine aj ?_;simp only[seval,Ua,UC,Uj,TN];refine bi ?_;exact bX hk
theorem ahv{x:ak}{h:List Int}{N ir ih:Nat}{yv pv:AV}{S:Type}{f:S->List Int->dA S}{Gf:S->List aa}{I:S->Prop}{A:List Int->Prop}{σ:S}{k kp:AV->List aa->Prop}(hx:x.Ok)(hh:mm h)(hY:jC lv SA yv f Gf N I A pv)(hr:∀σ L,(Gf σ++L)[ir]?=some (.cells x.l 76))(hi:∀σ L,(Gf σ++L)[ih]?=some (.cells (h.map iv) 83))
  (lZ:∀n,Lt n pv) (hI:I σ) (hA:∀a∈(fP x h).map (dQ h),A a) (hk:fS Gf pv k kp [] (bD f ((fP x h).map (dQ h)) σ)):bm lv SA 106 (Gf σ) [yv,.op ih 0,.op ir 0] k kp:=by
 refine bG (rs:=[]) (nt:=45) Tryz.f106 λhH ug=> ?_;simp only[br,SW];have hN:=hY.len σ;have lz:=hx.dY;have bM:x.l=[iv x.first,iv x.hours,iv x.an,dC x.seen,aT x.pieces,aT x.aC]:=rfl;obtain⟨a,b,c,d,rfl,ha,hb,hc,hd,hs⟩:=hh.out;have okH:∀L:List aa,(∀z∈L,∀n,eK n z)->bH (Gf σ++L):=λL hL z hz=>by
  rcases SS.1 hz with h|h
  ·exact(hH z h).mono (by simp)
  ·exact hL z h _
 refine aj ?_;simp only[seval,hY.parts];refine aj ?_;simp only[seval,hi];refine am ?_;refine cP ?_;refine iu 4 (λi:Nat=>[(13,iv i)]) (λi=>Gf σ++[.cells [yv] 132,.cells ((iX [a,b,c,d,0,0,0,0,0,0,0] 4 i (-1)).map iv) 86]) (λi=>True) (λ_ _=>rfl) (by simp only[seval];simp[bC,Wk.refl]) rfl (λ_ _ _=>by simp) trivial (λcq dG i cR _ R hR=> ?_);refine am ?_;refine aF ?_;refine⟨λhc=> ?_,λhc=> ?_⟩
 ·have bF:i<4:=by omega
  have b4:(0<=(i:Int)/\(i:Int)<4)=True:=by simp;omega
  have bP:SD.wrap ((i:Int)+1)=((i+1:Nat):Int):=by rw[bB _ (by omega)];rfl
  have lW:(iX [a,b,c,d,0,0,0,0,0,0,0] 4 i (-1)).length=11:=ES (by show 4+i<=11;omega);have lX:((iX [a,b,c,d,0,0,0,0,0,0,0] 4 i (-1)).map iv).length=11:=by rw[Tn,lW]
  refine aO ?_;refine am ?_;refine aj ?_;simp only[seval,b4,lX];refine⟨by omega,?_⟩;rw[wB (show 4+i<(iX [a,b,c,d,0,0,0,0,0,0,0] 4 i (-1)).length by omega),Js (by show 4+i<11;omega)];refine aj ?_;simp only[seval,bP];exact hR _ ⟨bF,trivial,dF⟩
 have:i=4:=by omega
 subst this;clear hc cR;refine cp ?_;refine am ?_;rw[show iX [a,b,c,d,0,0,0,0,0,0,0] 4 4 (-1)=[a,b,c,d, -1, -1, -1, -1,0,0,0]from rfl];refine cP ?_;refine iu 3 (λi:Nat=>[(20,iv i)]) (λi=>Gf σ++[.cells [yv] 132,.cells ((iX [a,b,c,d, -1, -1, -1, -1,0,0,0] 8 i (-1)).map iv) 86]) (λi=>True) (λ_ _=>rfl) (by simp only[seval];simp[bC,Wk.refl]) rfl (λ_ _ _=>by simp) trivial (λcq dG i cR _ R hR=> ?_);refine am ?_;refine aF ?_;refine⟨λhc=> ?_,λhc=> ?_⟩
 ·have bF:i<3:=by omega
  have b4:(0<=(i:Int)/\(i:Int)<3)=True:=by simp;omega
  have bP:SD.wrap ((i:Int)+1)=((i+1:Nat):Int):=by rw[bB _ (by omega)];rfl
  have lW:(iX [a,b,c,d, -1, -1, -1, -1,0,0,0] 8 i (-1)).length=11:=ES (by show 8+i<=11;omega);have lX:((iX [a,b,c,d, -1, -1, -1, -1,0,0,0] 8 i (-1)).map iv).length=11:=by rw[Tn,lW]
  refine aO ?_;refine am ?_;refine aj ?_;simp only[seval,b4,lX];refine⟨by omega,?_⟩;rw[wB (show 8+i<(iX [a,b,c,d, -1, -1, -1, -1,0,0,0] 8 i (-1)).length by omega),Js (by show 8+i<11;omega)];refine aj ?_;simp only[seval,bP];exact hR _ ⟨bF,trivial,dF⟩
 have:i=3:=by omega
 subst this;clear hc cR;refine cp ?_;rw[show iX [a,b,c,d, -1, -1, -1, -1,0,0,0] 8 3 (-1)=[a,b,c,d, -1, -1, -1, -1, -1, -1, -1]from rfl];refine am ?_;refine aj ?_;simp only[seval,hr,bM,aT];refine cP ?_;refine iu x.pieces.length (λi:Nat=>[(31,iv i)]) (λi=>Gf σ++[.cells [yv] 132,.cells ([a,b,c,d, -1, -1, -1, -1, -1, -1, -1].map iv) 86,.cells ((pK (x.pieces.map (bU [a,b,c,d])) i).map λn=>wv n) 80]) (λi=>True) (λ_ _=>rfl) (by simp only[seval];simp[bC,Wk.refl]) rfl (λ_ _ _=>by simp) trivial (λcq dG i cR _ R hR=> ?_);refine am ?_;refine aF ?_;refine⟨λhc=> ?_,λhc=> ?_⟩
 ·have bF:i<x.pieces.length:=by omega
  obtain⟨y,hy⟩:=cj bF;have uI:(x.pieces.map (bU [a,b,c,d]))[i]?=some (bU [a,b,c,d] y):=by rw[Tm,hy];rfl
  have b4:(0<=(i:Int)/\(i:Int)<4)=True:=by simp;omega
  have bP:SD.wrap ((i:Int)+1)=((i+1:Nat):Int):=by rw[bB _ (by omega)];rfl
  have cK:(pK (x.pieces.map (bU [a,b,c,d])) i).length=4:=afM (by simp;omega) (by simpa using lz);have vR:((pK (x.pieces.map (bU [a,b,c,d])) i).map λn=>wv n).length=4:=by rw[Tn,cK]
  refine aO ?_;refine aj ?_;simp only[seval,DE hy,jE bF];refine aj ?_;simp only[seval,hi,b4];refine aL ((ER (h:=[a,b,c,d]) (y:=y) hh ?_));(try simp only[seval,b4,vR]);refine⟨by omega,?_⟩;rw[Np (g:=λn=>wv n) (show i<(pK (x.pieces.map (bU [a,b,c,d])) i).length by omega),afN uI (by simpa using lz)];refine aj ?_;simp only[seval,bP];exact hR _ ⟨bF,trivial,AE (po rfl rfl) (by simp only[seval];simp[bC,Wk.refl]) (R_ (L:=[_,_]) cq (abp _ _)) (by simp[eC])⟩
 have:i=x.pieces.length:=by omega
 subst this;clear hc cR;refine cp ?_;refine am ?_;refine aj ?_;simp only[seval,Ua,UC,Uj,TN];refine am ?_;have o6:pK (x.pieces.map (bU [a,b,c,d])) x.pieces.length=x.pieces.map (bU [a,b,c,d])++TF (4-x.pieces.length) 0:=by
  have:=afL (l:=x.pieces.map (bU [a,b,c,d]));simpa using this
 refine aL (?_);rw[hN];have rM:∀n,Lt n (.aN []):=λn=>by simp[jx]
 have hT0:∀d_,oJ [a,b,c,d] x.pieces.length 0 [] d_->True:=λ_ _=>trivial;refine ahw (x:=x) (h:=[a,b,c,d]) hx rfl hY hr o6 x.pieces.length 0 0 [] [a,b,c,d, -1, -1, -1, -1, -1, -1, -1] σ [] _ _ rfl (by decide) rfl ⟨rfl,rfl,?_⟩ hI hA (λd_ sJ=> ?_)
 ·have:x.pieces.length=0\/x.pieces.length=1\/x.pieces.length=2\/x.pieces.length=3\/x.pieces.length=4:=by omega
  rcases this with e|e|e|e|e<;>rw[e]<;>rfl
 change cV Gf pv _ _ _ (bD f ((fP x [a,b,c,d]).map (dQ [a,b,c,d])) σ);cases hf:bD f ((fP x [a,b,c,d]).map (dQ [a,b,c,d])) σ with
 |go s=>
  rw[hf]at hk;simp only[cV,fS]at hk⊢;rw[SN]at hk;(try simp only[seval]);rw[<- hN];exact uY hY hH rM hk
 |stop s=>
  rw[hf]at hk;simp only[cV,fS]at hk⊢;rw[SN]at hk;(try simp only[seval]);rw[<- hN];exact uY hY hH rM hk
 |bad s=>
  rw[hf]at hk;simp only[cV,fS]at hk⊢;rw[SN]at hk;rw[<- hN];exact uY hY hH lZ hk
end
open Go.Conc Go.Proofs Go.Gg.Tk
namespace Tk
structure nQ (h:List Int)(ns:List Nat)(k s:Nat)(o:List Nat)(tc:List Int):Prop where
 len:tc.length=11
 pre:tc.take (8+s)=h++kY 4 ns++o.map λn:Nat=>(n:Int)
 tl:tc.drop (8+k)=TF (3-k) (-1)
theorem nQ.all{h:List Int}{ns:List Nat}{k:Nat}{o:List Nat}{tc:List Int}(ho:o.length=k)(n:nQ h ns k k o tc):tc=dx h ns o:=by
 have:=Vg (8+k) tc;rw[n.pre,n.tl]at this;rw[<- this];unfold dx
 conv=>rhs;unfold kY
 rw[ho,SC];rfl
theorem AA{k:Nat}{l:List Nat}(h:l.length<=k):(kY k l).length=k:=by simp[kY];omega
theorem nQ.back{h:List Int}{ns:List Nat}{k s:Nat}{o:List Nat}{n:Nat}{tc:List Int}(h4:h.length=4)(hn:ns.length<=4)(ho:o.length=s)(q:nQ h ns k (s+1) (o++[n]) tc):nQ h ns k s o tc:=by
 refine⟨q.len,?_,q.tl⟩;have e:tc.take (8+s)=(tc.take (8+(s+1))).take (8+s):=by rw[U3];congr 1;omega
 have hp:=AA hn;rw[e,q.pre,TE,<- SC,Tw (by simp[h4,ho,hp];omega),SP (by simp[h4,ho,hp];omega)]
theorem nQ.next{h:List Int}{ns:List Nat}{k s:Nat}{o:List Nat}{n:Nat}{tc:List Int}(hp:s<k)(hk:k<=3)(q:nQ h ns k s o tc):nQ h ns k (s+1) (o++[n]) (tc.set (8+s) (n:Int)):=by
 refine⟨by rw[TC];exact q.len,?_,?_⟩
 ·rw[show 8+(s+1)=(8+s)+1 by omega,NC (by rw[q.len];omega),q.pre];simp
 ·rw[PG (by omega)];exact q.tl
theorem nQ.num{h:List Int}{ns:List Nat}{k s p:Nat}{o:List Nat}{tc:List Int}(h4:h.length=4)(hn:ns.length<=4)(hp:p<ns.length)(q:nQ h ns k s o tc):tc[4+p]?=some ((ns.getD p 0:Nat):Int):=by
 have h1:(tc.take (8+s))[4+p]?=some ((ns.getD p 0:Nat):Int):=by
  rw[q.pre,SC,S9 (by omega),h4,show 4+p-4=p by omega,SX (by rw[AA hn];omega)];unfold kY;rw[SX (by simpa using hp),Tm,SE,SY hp];rfl
 rwa [Uf,if_pos (by omega)]at h1
theorem anM{h:List Int}{ns:List Nat}{k q:Nat}{qs:List Nat}{u:Nat}{o:List Nat}:(me k ns (q::qs) u o).map (dx h ns)=(SV k).flatMap λp=>if u.testBit p|| !q.testBit (ns.getD p 0)then[]else(me k ns qs (u|||2^p) (o++[p])).map (dx h ns):=by
 rw[me,Vt];congr 1;funext n;split<;>rfl
end Tk
open Go.Conc Go.Proofs Go.Gg.Tk
section
variable {lv:Bool}
def yo (yv:AV)(N ir it is:Nat):List aa:=[.cells [yv] 132,.cells [.fn (.func 109) [] [.op ir 0,.op N 0,.op it 0,.op is 0,.op (N+1) 0]] 157]
theorem ahy{x:ak}{h:List Int}{ns qs:List Nat}{N ir it is:Nat}{yv pv:AV}{S:Type}{f:S->List Int->dA S}{Gf:List Int->S->List aa}{I:S->Prop}{A:List Int->Prop}(hx:x.Ok)(h4:h.length=4)(iA:ns.length=x.pieces.length)(hY:∀tc,jC lv SA yv f (Gf tc) N I A pv)(hr:∀tc σ L,(Gf tc σ++L)[ir]?=some (.cells x.l 76))
  (ht:∀tc σ L,(Gf tc σ++L)[it]?=some (.cells (tc.map iv) 86)) (cM:∀tc d_ σ L,(Gf tc σ++L).set it (.cells (d_.map iv) 86)=Gf d_ σ++L) (hs:∀tc σ L,(Gf tc σ++L)[is]?=some (.cells (qs.map λn=>wv n) 81)) (Ab:∃r,qs=x.aC.map (bU h)++r) (xS:qs.length=3):
  ∀(d s u:Nat)(o:List Nat)(tc:List Int)(σ:S)(M:List aa)(k kp:AV->List aa->Prop),d+s=x.aC.length->u<65536->o.length=s->nQ h ns x.aC.length s o tc->I σ->(∀a∈(me x.pieces.length ns ((x.aC.map (bU h)).drop s) u o).map (dx h ns),A a)->
   (∀d_,nQ h ns x.aC.length s o d_->cV (Gf d_) pv k kp (yo yv N ir it is++M) (bD f ((me x.pieces.length ns ((x.aC.map (bU h)).drop s) u o).map (dx h ns)) σ))->
   bm lv SA 109 (Gf tc σ++(yo yv N ir it is++M)) [iv s,wv u,.op ir 0,.op N 0,.op it 0,.op is 0,.op (N+1) 0] k kp:=by
 intro d;induction d with
 |zero=>
  intro s u o tc σ M k kp oW hu ho hT hI hA hk;refine bG (rs:=[.tmp 9]) (nt:=54) af' λhH ug=> ?_;simp only[br,SW];have bM:x.l=[iv x.first,iv x.hours,iv x.an,dC x.seen,aT x.pieces,aT x.aC]:=rfl;have g0:∀(tc:List Int)(σ:S)(L:List aa),(Gf tc σ++L)[N]?=L[0]?:=λtc σ L=>(hY tc).get σ L 0;have da:s=x.aC.length:=by omega
  have vT:(x.aC.map (bU h)).drop s=[]:=TW (by simp;omega);rw[vT,me]at hA hk;rw[Y9]at hA hk;rw[Nh]at hk;have xZ:tc=dx h ns o:=by subst da;exact hT.all ho
  have jS:(tc.map iv).length=11:=by rw[Tn,hT.len]
  refine am ?_;refine aj ?_;simp only[seval,hr,bM,aT];refine aF ?_;refine⟨λhc=> ?_,λhc=>by exfalso;simp at hc;omega⟩;refine aj ?_;simp only[seval,g0,ht,yo,jS];rw[SP (i:=11) (l:=tc.map iv) (by rw[jS];exact SQ _)];rw[<- xZ]at hA hk;have aJ:=hk tc hT;refine w_ ((hY tc).call σ tc (yo yv N ir it is++M) _ _ hI (hA _ (by simp)) ?_);cases hf:f σ tc with
  |go σ'=>
   rw[hf]at aJ;simp only[cV]at aJ⊢;(try simp only[seval]);refine bi ?_;exact bX aJ
  |stop σ'=>
   rw[hf]at aJ;simp only[cV]at aJ⊢;(try simp only[seval]);refine bi ?_;exact bX aJ
  |bad σ'=>
   rw[hf]at aJ;simp only[cV]at aJ⊢;exact bX aJ
 |succ d ihd=>
  intro s u o tc σ M k kp oW hu ho hT hI hA hk;refine bG (rs:=[.tmp 9]) (nt:=54) af' λhH ug=> ?_;simp only[br,SW];have bM:x.l=[iv x.first,iv x.hours,iv x.an,dC x.seen,aT x.pieces,aT x.aC]:=rfl;have g1:∀(tc:List Int)(σ:S)(L:List aa),(Gf tc σ++L)[N+1]?=L[1]?:=λtc σ L=>(hY tc).get σ L 1;have lz:=hx.dY;have xU:=hx.di;obtain⟨y,hy⟩:=cj (xs:=x.aC) (i:=s) (by omega);have uI:(x.aC.map (bU h))[s]?=some (bU h y):=by rw[Tm,hy];rfl
  have nw:qs[s]?=some (bU h y):=by obtain⟨r,e⟩:=Ab;rw[e,SX (by simp;omega)];exact uI
  have l5:bU h y<65536:=Wl (Qb h y) (by decide);have aI:¬(s:Int)=(x.aC.length:Int):=by omega
  rw[vE uI,anM]at hA hk;generalize hg:(λp=>if u.testBit p|| !(bU h y).testBit (ns.getD p 0)then[]else(me x.pieces.length ns ((x.aC.map (bU h)).drop (s+1)) (u|||2^p) (o++[p])).map (dx h ns))=g at hA hk;refine am ?_;refine aj ?_;simp only[seval,hr,bM,aT];refine aF ?_;refine⟨λhc=>by exfalso;exact aI (by simpa using hc),λhc=> ?_⟩;refine aO ?_;refine aj ?_;simp only[seval,hr,bM,aT];refine cP ?_;refine y8 (measure λm:Nat×S×List Int=>x.pieces.length-m.1).wf (λm=>[(24,iv (m.1:Nat))]) (λm=>Gf m.2.2 m.2.1++(yo yv N ir it is++M)) (λm=>m.1<=x.pieces.length/\bD f ((SV m.1).flatMap g) σ=.go m.2.1/\nQ h ns x.aC.length s o m.2.2) (0,σ,tc) (λ_ _=>rfl) (by intro p hp;simp at hp;subst hp;exact⟨_,rfl,Wk.refl _⟩) rfl (λ_ _=>by simp[yo,(hY _).len]) ⟨by omega,rfl,hT⟩ (λcq dG m ay R hR=> ?_);obtain⟨i,τ,tq⟩:=m;obtain⟨hi,bI,ln⟩:=ay;replace hi:i<=x.pieces.length:=hi;replace bI:bD f ((SV i).flatMap g) σ=.go τ:=bI;replace ln:nQ h ns x.aC.length s o tq:=ln;refine am ?_;refine aF ?_;refine⟨λhc=> ?_,λhc=> ?_⟩
  ·have bF:i<x.pieces.length:=(by omega);have bP:SD.wrap ((i:Int)+1)=((i+1:Nat):Int):=(by rw[bB _ (by omega)];rfl);have hws:SD.wrap ((s:Int)+1)=((s+1:Nat):Int):=(by rw[bB _ (by omega)];rfl);have rC:=JA g bF;have s9:=JB g i;have B9:I τ:=AF (A:=A) (hY tc).inv _ σ τ (λa ha=>hA a (by rw[rC];exact Tf _ ha)) hI bI;have b3:(0<=(s:Int)/\(s:Int)<3)=True:=(by simp;omega);have b4:(0<=(i:Int)/\(i:Int)<4)=True:=(by simp;omega);have DI:(u.testBit i|| !(bU h y).testBit (ns.getD i 0))=true->g i=[]:=λe=>(by rw[<- hg];exact if_pos e);have JI:(u.testBit i|| !(bU h y).testBit (ns.getD i 0))=false->g i=(me x.pieces.length ns ((x.aC.map (bU h)).drop (s+1)) (u|||2^i) (o++[i])).map (dx h ns):=λe=>(by rw[<- hg];exact if_neg (by rw[e];simp));have R8:=ln.num h4 (by omega) (show i<ns.length by omega);refine aO ?_;refine am ?_;refine eM 14 ?_;simp only[seval,ht,hs,b3,b4,zk nw,kG R8];refine ik (bv (u.testBit i)) (c9 (xh hu ⟨rfl,rfl⟩)) ?_;(try simp only[seval]);refine xp (λh2=> ?_) (λh2=> ?_)
   ·(try simp only[seval,ht,hs,b3,b4,zk nw,kG R8]);refine ik (bv ((bU h y).testBit (ns.getD i 0))) (c9 (xh l5 ⟨rfl,rfl⟩)) ?_;(try simp only[seval]);refine aF ?_;refine⟨λh3=> ?_,λh3=> ?_⟩
    ·have aM:=DI (by rw[h2];simpa using h3);refine cp ?_;refine aj ?_;simp only[seval,bP];exact hR _ ⟨(i+1,τ,tq),(by show x.pieces.length-(i+1)<x.pieces.length-i;omega),⟨by omega,by rw[s9,aM,SN];exact bI,ln⟩,dF⟩
    ·have aM:=JI (by rw[h2];simpa using h3);have jS:(tq.map iv).length=11:=(by rw[Tn,ln.len]);have IC:8+s<tq.length:=(by rw[ln.len];omega);refine aO ?_;refine aj ?_;simp only[seval,ht,b3,jS];refine⟨by omega,?_⟩;rw[wB IC,cM];refine eM 6 ?_;simp only[seval,g1,yo];refine ik (wv (u|||2^i)) (c9 (ue hu (show i<16 by omega) ⟨rfl,rfl⟩)) ?_;rw[hws];have lG:u|||2^i<65536:=pw hu (wG (by omega));refine aL ((ihd (s+1) (u|||2^i) (o++[i]) (tq.set (8+s) (i:Int)) τ M _ _ (by omega) lG (by simp[ho]) (ln.next (by omega) xU) B9 (λa ha=>hA a (by rw[rC,aM];exact S0 _ (Tf _ ha))) (λd_ sJ=> ?_)));have Cb:=sJ.back h4 (by omega) ho;have Ai:bD f ((SV x.pieces.length).flatMap g) σ=match bD f (g i) τ with
       |.go s'=>bD f ((Ud (i+1) (x.pieces.length-(i+1))).flatMap g) s'
       |r=>r:=by
      rw[rC,qw,bI];exact qw f (g i) _ τ
     rw[<- aM];have aJ:=hk d_ Cb;rw[Ai]at aJ;cases hf:bD f (g i) τ with
     |go τ'=>
      simp only[cV];(try simp only[seval]);refine aF ?_;refine aO ?_;refine aj ?_;simp only[seval,bP];exact hR _ ⟨(i+1,τ',d_),(by show x.pieces.length-(i+1)<x.pieces.length-i;omega),⟨by omega,by rw[s9,qw,bI];exact hf,Cb⟩,dF⟩
     |stop τ'=>
      rw[hf]at aJ;simp only[cV]at aJ⊢;(try simp only[seval]);refine aF ?_;refine am ?_;refine bi ?_;exact bX aJ
     |bad τ'=>
      rw[hf]at aJ;simp only[cV]at aJ⊢;exact bX aJ
   ·(try simp only[seval]);refine aF ?_;have aM:=DI (by rw[show u.testBit i=true by simpa using h2];rfl);refine cp ?_;refine aj ?_;simp only[seval,bP];exact hR _ ⟨(i+1,τ,tq),(by show x.pieces.length-(i+1)<x.pieces.length-i;omega),⟨by omega,by rw[s9,aM,SN];exact bI,ln⟩,dF⟩
  ·have du:i=x.pieces.length:=(by omega);subst du;have aJ:=hk tq ln;rw[bI]at aJ;refine cp ?_;refine am ?_;refine bi ?_;exact bX aJ
theorem ail{H:List aa}{k kp:AV->List aa->Prop}{x:ak}{tc:List Int}{qs:List Nat}(hk:k (.fn (.func 108) [] [.op H.length 0,.op (H.length+1) 0,.op (H.length+2) 0]) (H++[.cells x.l 76,.cells (tc.map iv) 86,.cells (qs.map λn=>wv n) 81])):bm lv SA 93 H [x.av,.agg (tc.map iv),.agg (qs.map λn=>wv n)] k kp:=by
 refine bG (rs:=[.tmp 6]) (nt:=8) Tryz.f93 λhH hA=> ?_;simp only[br,SW,ak.av];refine am ?_;refine aj ?_;simp only[seval,Ua,UC,Uj,TN];refine bi ?_;exact bX hk
theorem ahx{x:ak}{h:List Int}{ns qs:List Nat}{N ir it is:Nat}{yv pv:AV}{S:Type}{f:S->List Int->dA S}{Gf:List Int->S->List aa}{I:S->Prop}{A:List Int->Prop}{tc:List Int}{σ:S}{k kp:AV->List aa->Prop}(hx:x.Ok)(h4:h.length=4)(iA:ns.length=x.pieces.length)(hY:∀tc,jC lv SA yv f (Gf tc) N I A pv)(hr:∀tc σ L,(Gf tc σ++L)[ir]?=some (.cells x.l 76))
  (ht:∀tc σ L,(Gf tc σ++L)[it]?=some (.cells (tc.map iv) 86)) (cM:∀tc d_ σ L,(Gf tc σ++L).set it (.cells (d_.map iv) 86)=Gf d_ σ++L) (hs:∀tc σ L,(Gf tc σ++L)[is]?=some (.cells (qs.map λn=>wv n) 81)) (Ab:∃r,qs=x.aC.map (bU h)++r) (xS:qs.length=3)
  (ay:∀m tc d_ σ,(∀z∈Gf tc σ,eK m z)->∀z∈Gf d_ σ,eK m z) (lZ:∀n,Lt n pv) (xZ:tc=dQ h ns) (hI:I σ) (hA:∀a∈(ij x h ns).map (dx h ns),A a) (hk:∀d_,d_.length=11->fS (Gf d_) pv k kp [] (bD f ((ij x h ns).map (dx h ns)) σ)):bm lv SA 108 (Gf tc σ) [yv,.op ir 0,.op it 0,.op is 0] k kp:=by
 refine bG (rs:=[]) (nt:=9) Tryz.f108 λhH ug=> ?_;simp only[br,SW];have hN:=(hY tc).len σ;have lz:=hx.dY;have xU:=hx.di;refine aj ?_;simp only[seval,(hY tc).parts];refine am ?_;refine aj ?_;simp only[seval,Ua,UC,Uj,TN];refine am ?_;refine aL (?_);rw[hN];have rM:∀n,Lt n (.aN []):=λn=>by simp[jx]
 have da:=AA (k:=4) (l:=ns) (by omega);have cut:∀(d_:List Int)(σ':S)(L:List aa)(a:AV)(k:AV->List aa->Prop),(∀n,Lt n a)->k a (Gf d_ σ')->cC (Gf tc σ).length (Gf d_ σ'++L) a k:=λd_ σ' L a k ha aJ=>by
  refine jH (H':=Gf d_ σ') (Wk.refl _) rfl (by rw[(hY d_).len,(hY tc).len];exact SQ _) ?_ (ha _) aJ;intro z hz;have h1:∀z∈Gf d_ σ,eK N z:=ay N tc d_ σ (λw hw=>by have:=hH w hw;rwa [hN]at this);rw[(hY d_).len];exact(hY d_).ok N σ σ' h1 z hz
 refine ahy (x:=x) (h:=h) (ns:=ns) (qs:=qs) hx h4 iA hY hr ht cM hs Ab xS x.aC.length 0 0 [] tc σ [] _ _ rfl (by decide) rfl ⟨?_,?_,?_⟩ hI hA (λd_ sJ=> ?_)
 ·rw[xZ];simp[dQ,h4,da]
 ·rw[xZ];unfold dQ;rw[List.map_nil,SN,Tw (by simp[h4,da]),SP (by simp[h4,da])]
 ·rw[xZ];unfold dQ;rw[Vu,TW (by simp[h4,da]),Uy];have:(h++kY 4 ns).length=8:=by simp[h4,da]
  rw[this];have:x.aC.length=0\/x.aC.length=1\/x.aC.length=2\/x.aC.length=3:=by omega
  rcases this with e|e|e|e<;>rw[e]<;>rfl
 have hk:=hk d_ sJ.len;change cV (Gf d_) pv _ _ _ (bD f ((ij x h ns).map (dx h ns)) σ);cases hf:bD f ((ij x h ns).map (dx h ns)) σ with
 |go s=>
  rw[hf]at hk;simp only[cV,fS]at hk⊢;rw[SN]at hk;(try simp only[seval]);rw[<- hN];exact cut _ _ _ _ _ rM hk
 |stop s=>
  rw[hf]at hk;simp only[cV,fS]at hk⊢;rw[SN]at hk;(try simp only[seval]);rw[<- hN];exact cut _ _ _ _ _ rM hk
 |bad s=>
  rw[hf]at hk;simp only[cV,fS]at hk⊢;rw[SN]at hk;rw[<- hN];exact cut _ _ _ _ _ lZ hk
end
section
variable {lv:Bool}{P:SI}{s:AS}{ms:List Nat}{bs:List UX}{nt:Nat}
theorem afv{f:Ti}{ps:Array Tmp}{bK body:T6}{fv:AV}{Φ:ao->AS->List Nat->Prop}(hf:s.ev f=some fv)
  (h:∀(l fn:Nat)(T:List (Nat×AV))(ag bo:T6),T=s.T->ag=bK->bo=body->iT lv P fv (s.H++[.obj (.deferred (some [])),.loop l .ready none fn T nt ps ag bo s.H.length]) [.fn (.yield l) [] []]
   (λ_ H'=>∃st pe fu T' jb gn fU fb fV,H'[s.H.length+1]?=some (.loop l st pe fu T' jb gn fU fb fV)/\st≠ .busy/\sj Φ ⟨s.T,H'.set (s.H.length+1) .gone⟩ (s.H.length::ms) pe)
   (λpv H'=>Φ (.panic pv) ⟨s.T,H'⟩ (s.H.length::ms))):ml lv P nt (.rangeFunc f ps bK body) s ms Φ:=afu hf λl fn=>h l fn _ _ _ rfl rfl rfl
theorem IA{f:Ti}{ps:Array Tmp}{bK body:T6}{fv:AV}{Φ:ao->AS->List Nat->Prop}(hf:s.ev f=some fv)
  (h:∀(l fn:Nat)(T:List (Nat×AV))(ag bo:T6),T=s.T->ag=bK->bo=body->iT lv P fv (s.H++[.obj (.deferred (some [])),.loop l .ready none fn T nt ps ag bo s.H.length]) [.fn (.yield l) [] []]
   (λ_ H'=>∃st pe fu T' jb gn fU fb fV,H'[s.H.length+1]?=some (.loop l st pe fu T' jb gn fU fb fV)/\st≠ .busy/\sj Φ ⟨s.T,H'.set (s.H.length+1) .gone⟩ (s.H.length::ms) pe)
   (λpv H'=>Φ (.panic pv) ⟨s.T,H'⟩ (s.H.length::ms))):j7 lv P nt bs (.rangeFunc f ps bK body) s ms Φ:=afy hf λl fn=>h l fn _ _ _ rfl rfl rfl
theorem Ew{f:Ti}{ps:Array Tmp}{bK body:T6}{fv:AV}{Φ:ao->AS->Prop}{l0:Nat}(Gs:Nat){JD MC df:Nat}{Nu:Z6}{MP:Option T6}{T0:List (Nat×AV)}{M9:Array Tmp}{It IF:T6}(hf:s.ev f=some fv)(h0:s.H[Gs]?=some (.loop l0 Nu MP JD T0 MC M9 It IF df))
  (h:∀(l fn:Nat)(T:List (Nat×AV))(ag bo:T6),T=s.T->ag=bK->bo=body->iT lv P fv (s.H++[.loop l .ready none fn T nt ps ag bo df]) [.fn (.yield l) [] []]
   (λ_ H'=>∃st pe fu T' jb gn fU fb fV,H'[s.H.length]?=some (.loop l st pe fu T' jb gn fU fb fV)/\st≠ .busy/\tR Φ ⟨s.T,H'.set s.H.length .gone⟩ pe)
   (λpv H'=>Φ (.panic pv) ⟨s.T,H'⟩)):aQ lv P (some l0) nt (.rangeFunc f ps bK body) s Φ:=afj hf h0 λl fn=>h l fn _ _ _ rfl rfl rfl
end
section
variable {P:SI}
theorem Ha(Φ:ao->AS->List Nat->Prop)(s:AS)(ms:List Nat):sj Φ s ms none=Φ .normal s ms:=by rw[sj]
theorem aob(Φ:ao->AS->List Nat->Prop)(s:AS)(ms:List Nat):sj Φ s ms (some .ret)=Φ .ret s ms:=by rw[sj]
theorem Hb(Φ:ao->AS->Prop)(s:AS):tR Φ s none=Φ .normal s:=by rw[tR]
theorem aod(Φ:ao->AS->Prop)(s:AS):tR Φ s (some .ret)=Φ .ret s:=by rw[tR]
theorem aoc(Φ:ao->AS->Prop)(s:AS)(i:Nat):tR Φ s (some (.exit i))=Φ (.exit i) s:=by rw[tR]
theorem afR(id:Nat)(Φ:ao->AS->List Nat->Prop)(s:AS)(ms:List Nat):ao.pL id Φ .ret s ms=Φ .ret s ms:=by rw[ao.pL];simp
theorem afQ(id:Nat)(Φ:ao->AS->List Nat->Prop)(pv:AV)(s:AS)(ms:List Nat):ao.pL id Φ (.panic pv) s ms=Φ (.panic pv) s ms:=by rw[ao.pL];simp
theorem aqy(Φ:ao->AS->List Nat->Prop)(pv:AV)(s:AS)(ms:List Nat):ao.u7 Φ (.panic pv) s ms=Φ (.panic pv) s ms:=by rw[ao.u7];simp
theorem ard(K:AS->List Nat->Prop)(Φ:ao->AS->List Nat->Prop)(pv:AV)(s:AS)(ms:List Nat):ao.rW K Φ (.panic pv) s ms=Φ (.panic pv) s ms:=by rw[ao.rW];simp
theorem aiN(rs:List UO)(n:Nat)(k kp:AV->List aa->Prop)(s:AS)(ms:List Nat):sf P rs n k kp .normal s ms=ap (iG ms s.H) λH'=>ap (gT P ⟨s.T,H'⟩ rs) λl=>cC n H' (iR l) k:=by rw[sf]
theorem aiO(rs:List UO)(n:Nat)(k kp:AV->List aa->Prop)(pv:AV)(s:AS)(ms:List Nat):sf P rs n k kp (.panic pv) s ms=ap (iG ms s.H) λH'=>cC n H' pv kp:=by rw[sf]
attribute [seval] afR afQ aqy ard aiN aiO
end
inductive Lp where
 |ready
 |ret
 |exit (i:Nat)
 |busy
def Lp.st:Lp->Z6
 |.ready=> .ready
 |.ret=> .done
 |.exit _=> .done
 |.busy=> .busy
def Lp.pe:Lp->Option T6
 |.ready=>none
 |.ret=>some .ret
 |.exit i=>some (.exit i)
 |.busy=>none
namespace Tk
def dA.map {S T:Type}(g:S->T):dA S->dA T
 |.go s=> .go (g s)
 |.stop s=> .stop (g s)
 |.bad s=> .bad (g s)
def dA.fin {S:Type}:dA S->Bool×S
 |.go s=>(false,s)
 |.stop s=>(false,s)
 |.bad s=>(true,s)
end Tk
theorem Nf{S:Type}{Gf:S->List aa}{pv:AV}{k kp:AV->List aa->Prop}{M:List aa}{r r':dA S}(h:r.fin=r'.fin)(hk:fS Gf pv k kp M r):fS Gf pv k kp M r':=by
 cases r<;>cases r'<;>simp only[dA.fin,U2]at h<;>first
  |(obtain⟨_,rfl⟩:=h;exact hk)
  |(exact absurd h.1 (by decide))
end Go.Gg
namespace Go.Gg.Tk
open Go.Gg
def iS {S:Type}(f:S->List Int->dA S)(deep:Int)(m:S×Lp)(b:List Int):dA (S×Lp):=match f m.1 b with
 |.go σ=>if deep=0 then .stop (σ,.ret)else if deep=1 then .stop (σ,.exit 3)else .go (σ,.ready)
 |.stop σ=> .stop (σ,.ret)
 |.bad σ=> .bad (σ,.busy)
def kE {S:Type}:dA (S×Lp)->dA (S×Lp)
 |.go m=> .go (m.1,.ready)
 |.stop (σ,.ret)=> .stop (σ,.ret)
 |.stop (σ,_)=> .go (σ,.ready)
 |.bad m=> .bad (m.1,.busy)
def pB {S:Type}(f:S->List Int->dA S)(deep:Int)(L:List Int->List (List Int))(m:S×Lp)(a:List Int):dA (S×Lp):=kE (bD (iS f deep) (L a) (m.1,.ready))
def rP (deep:Int)(ll:List (List (List Int))):List (List Int):=if deep=0 then ll.flatten.take 1 else if deep=1 then(ll.map (·.take 1)).flatten else ll.flatten
theorem art{S:Type}{f:S->List Int->dA S}{σ:S}{l:Lp}:∀(M:List (List Int)),bD (iS f 0) M (σ,l)=match M with
  |[]=> .go (σ,l)
  |b::_=>match f σ b with
   |.go τ=> .stop (τ,.ret)
   |.stop τ=> .stop (τ,.ret)
   |.bad τ=> .bad (τ,.busy)
 |[]=>rfl
 |b::M=>by
  simp only[bD,iS];cases f σ b<;>simp
theorem aru{S:Type}{f:S->List Int->dA S}{σ:S}{l:Lp}:∀(M:List (List Int)),bD (iS f 1) M (σ,l)=match M with
  |[]=> .go (σ,l)
  |b::_=>match f σ b with
   |.go τ=> .stop (τ,.exit 3)
   |.stop τ=> .stop (τ,.ret)
   |.bad τ=> .bad (τ,.busy)
 |[]=>rfl
 |b::M=>by
  simp only[bD,iS];cases f σ b<;>simp
theorem adh{S:Type}{f:S->List Int->dA S}{deep:Int}(h0:deep≠0)(h1:deep≠1):∀(M:List (List Int))(σ:S),bD (iS f deep) M (σ,.ready)=match bD f M σ with
  |.go τ=> .go (τ,.ready)
  |.stop τ=> .stop (τ,.ret)
  |.bad τ=> .bad (τ,.busy)
 |[],σ=>rfl
 |b::M,σ=>by
  simp only[bD,iS,h0,h1,if_false];cases f σ b with
  |go τ=>exact adh h0 h1 M τ
  |stop τ=>rfl
  |bad τ=>rfl
theorem adi{S:Type}{f:S->List Int->dA S}{deep:Int}{L:List Int->List (List Int)}:∀(l:List (List Int))(σ:S),((bD (pB f deep L) l (σ,.ready)).map Prod.fst).fin=(bD f (rP deep (l.map L)) σ).fin/\(∀m,bD (pB f deep L) l (σ,.ready)=.go m->m.2=.ready)
 |[],σ=>by
  have:rP deep (([]:List (List Int)).map L)=[]:=by
   unfold rP;by_cases h0:deep=0
   ·rw[if_pos h0];rfl
   ·by_cases h1:deep=1
    ·rw[if_neg h0,if_pos h1];rfl
    ·rw[if_neg h0,if_neg h1];rfl
  rw[this];exact⟨rfl,λm h=>by cases h;rfl⟩
 |a::l,σ=>by
  have ih:=adi (f:=f) (deep:=deep) (L:=L) l;by_cases h0:deep=0
  ·subst h0;have hp:rP 0 ((a::l).map L)=(L a++(l.map L).flatten).take 1:=rfl;have jJ:rP 0 (l.map L)=((l.map L).flatten).take 1:=rfl;rw[hp];simp only[bD,pB,art];cases hL:L a with
   |nil=>
    simp only[kE,Uy];rw[<- jJ];exact ih σ
   |cons b M=>
    simp only[U1,VQ,aj_];cases hf:f σ b with
    |go τ=>simp only[kE,bD,hf];exact⟨rfl,λm h=>by cases h⟩
    |stop τ=>simp only[kE,bD,hf];exact⟨rfl,λm h=>by cases h⟩
    |bad τ=>simp only[kE,bD,hf];exact⟨rfl,λm h=>by cases h⟩
  by_cases h1:deep=1
  ·subst h1;have hp:rP 1 ((a::l).map L)=(L a).take 1++rP 1 (l.map L):=rfl;rw[hp,qw];simp only[bD,pB,aru];cases hL:L a with
   |nil=>
    simp only[kE,List.take_nil,bD];exact ih σ
   |cons b M=>
    simp only[VQ,aj_,bD];cases hf:f σ b with
    |go τ=>simp only[kE];exact ih τ
    |stop τ=>simp only[kE];exact⟨rfl,λm h=>by cases h⟩
    |bad τ=>simp only[kE];exact⟨rfl,λm h=>by cases h⟩
  ·have hp:rP deep ((a::l).map L)=L a++rP deep (l.map L):=(by unfold rP;rw[if_neg h0,if_neg h1,if_neg h0,if_neg h1];rfl);rw[hp,qw];simp only[bD,pB];rw[adh h0 h1];cases hf:bD f (L a) σ with
   |go τ=>simp only[kE];exact ih τ
   |stop τ=>simp only[kE];exact⟨rfl,λm h=>by cases h⟩
   |bad τ=>simp only[kE];exact⟨rfl,λm h=>by cases h⟩
theorem Ni{S α:Type}{F:S->α->dA S}:∀{l:List α}{s s':S},bD F l s=.stop s'->∃t a,F t a=.stop s'
 |[],s,s',h=>by cases h
 |a::l,s,s',h=>by
  simp only[bD]at h;cases hf:F s a with
  |go t=>rw[hf]at h;exact Ni h
  |stop t=>rw[hf]at h;cases h;exact⟨s,a,hf⟩
  |bad t=>rw[hf]at h;cases h
theorem ars{S:Type}{f:S->List Int->dA S}{deep:Int}{L:List Int->List (List Int)}{m m':S×Lp}{a:List Int}(h:pB f deep L m a=.stop m'):m'.2=.ret:=by
 unfold pB at h;generalize bD (iS f deep) (L a) (m.1,.ready)=r at h;cases r with
 |go q=>cases h
 |bad q=>cases h
 |stop q=>
  obtain⟨s,lp⟩:=q;cases lp<;>cases h;rfl
theorem arw{S:Type}{f:S->List Int->dA S}{deep:Int}{m m':S×Lp}{a:List Int}(h:iS f deep m a=.stop m'):m'.2=.ret\/m'.2=.exit 3:=by
 unfold iS at h;cases hf:f m.1 a with
 |go q=>
  rw[hf]at h;dsimp only at h;by_cases h0:deep=0
  ·rw[if_pos h0]at h;cases h;exact .inl rfl
  ·rw[if_neg h0]at h;by_cases h1:deep=1
   ·rw[if_pos h1]at h;cases h;exact .inr rfl
   ·rw[if_neg h1]at h;cases h
 |stop q=>rw[hf]at h;cases h;exact .inl rfl
 |bad q=>rw[hf]at h;cases h
theorem arv{S:Type}{f:S->List Int->dA S}{deep:Int}{m m':S×Lp}{a:List Int}(h:iS f deep m a=.go m'):m'.2=.ready:=by
 unfold iS at h;cases hf:f m.1 a with
 |go q=>
  rw[hf]at h;dsimp only at h;by_cases h0:deep=0
  ·rw[if_pos h0]at h;cases h
  ·rw[if_neg h0]at h;by_cases h1:deep=1
   ·rw[if_pos h1]at h;cases h
   ·rw[if_neg h1]at h;cases h;rfl
 |stop q=>rw[hf]at h;cases h
 |bad q=>rw[hf]at h;cases h
theorem abZ{S α:Type}{F:S->α->dA S}{J:S->Prop}{A:α->Prop}(hi:∀s a s',J s->A a->F s a=.go s'->J s'):∀{l:List α}{s s':S},(∀a∈l,A a)->J s->bD F l s=.stop s'->∃t a,J t/\A a/\F t a=.stop s'
 |[],s,s',_,_,h=>by cases h
 |a::l,s,s',ha,hs,h=>by
  simp only[bD]at h;cases hf:F s a with
  |go t=>rw[hf]at h;exact abZ hi (λb hb=>ha b (by simp[hb])) (hi s a t hs (ha a (by simp)) hf) h
  |stop t=>rw[hf]at h;cases h;exact⟨s,a,hs,ha a (by simp),hf⟩
  |bad t=>rw[hf]at h;cases h
theorem DO{S:Type}{f:S->List Int->dA S}{deep:Int}{I:S->Prop}{A:List Int->Prop}(hi:∀s a s',I s->A a->f s a=.go s'->I s'){m m':S×Lp}{a:List Int}(hm:I m.1)(ha:A a)(h:iS f deep m a=.go m'\/iS f deep m a=.stop m'/\m'.2≠ .ret):I m'.1:=by
 unfold iS at h;cases hf:f m.1 a with
 |go q=>
  have hq:=hi _ _ _ hm ha hf;rw[hf]at h;dsimp only at h;by_cases h0:deep=0
  ·rw[if_pos h0]at h;rcases h with h|⟨h,h2⟩
   ·cases h
   ·cases h;exact hq
  ·rw[if_neg h0]at h;by_cases h1:deep=1
   ·rw[if_pos h1]at h;rcases h with h|⟨h,h2⟩
    ·cases h
    ·cases h;exact hq
   ·rw[if_neg h1]at h;rcases h with h|⟨h,h2⟩
    ·cases h;exact hq
    ·cases h
 |stop q=>
  rw[hf]at h;rcases h with h|⟨h,h2⟩
  ·cases h
  ·cases h;exact absurd rfl h2
 |bad q=>
  rw[hf]at h;rcases h with h|⟨h,h2⟩
  ·cases h
  ·cases h
theorem aeF{S:Type}{f:S->List Int->dA S}{deep:Int}{I:S->Prop}{A:List Int->Prop}(hi:∀s a s',I s->A a->f s a=.go s'->I s'){l:List (List Int)}{σ:S}{m:S×Lp}(hl:∀a∈l,A a)(hs:I σ)(h:kE (bD (iS f deep) l (σ,.ready))=.go m):I m.1/\m.2=.ready:=by
 cases hr:bD (iS f deep) l (σ,.ready)with
 |go q=>
  rw[hr]at h;cases h;exact⟨AF (f:=iS f deep) (s':=q) (I:=λm:S×Lp=>I m.1) (A:=A) (λs a s' h1 h2 h3=>DO hi h1 h2 (.inl h3)) l _ hl hs hr,rfl⟩
 |stop q=>
  obtain⟨t,a,h1,h2,h3⟩:=abZ (J:=λm:S×Lp=>I m.1) (A:=A) (λs a s' h1 h2 h3=>DO hi h1 h2 (.inl h3)) hl hs hr;rw[hr]at h;obtain⟨q1,q2⟩:=q;cases q2 with
  |ret=>cases h
  |ready=>cases h;exact⟨DO (m':=(q1,.ready)) hi h1 h2 (.inr ⟨h3,by simp⟩),rfl⟩
  |exit i=>cases h;exact⟨DO (m':=(q1,.exit i)) hi h1 h2 (.inr ⟨h3,by simp⟩),rfl⟩
  |busy=>cases h;exact⟨DO (m':=(q1,.busy)) hi h1 h2 (.inr ⟨h3,by simp⟩),rfl⟩
 |bad q=>rw[hr]at h;cases h
end Go.Gg.Tk
namespace Go.Gg
open Go.Conc Go.Proofs Go.Gg.Tk
namespace Tk
def mW (l:List Nat)(i:Nat):List Nat:=l.take i++TF (3-i) 0
theorem afK{l:List Nat}{i q:Nat}(h:l[i]?=some q)(hl:l.length<=3):(mW l i).set i q=mW l (i+1):=by
 have hi:=eI h;unfold mW;rw[T_ _ _ (by simp;omega),show i-(l.take i).length=0 by simp;omega,show 3-i=(3-(i+1))+1 by omega,Ws,T1,Ww,h];simp
theorem OZ{l:List Nat}{i:Nat}(hi:i<=l.length)(hl:l.length<=3):(mW l i).length=3:=by simp[mW];omega
theorem afJ{l:List Nat}:mW l l.length=l++TF (3-l.length) 0:=by simp[mW]
theorem abj:∀{qs:List Nat}{u:Nat}{t ns:List Nat},ns∈kz qs u t->ns.length=t.length+qs.length
 |[],u,t,ns,h=>by
  simp only[kz,S8]at h;subst h;rfl
 |q::qs,u,t,ns,h=>by
  simp only[kz,S6]at h;obtain⟨n,_,h⟩:=h;split at h
  ·cases h
  ·have:=abj h;simp at this⊢;omega
theorem MD{x:ak}{h:List Int}{ns:List Nat}(hm:ns∈fP x h):ns.length=x.pieces.length:=by
 have:=abj hm;simpa using this
def GQ (k:Nat)(a:List Int):List Nat:=((a.drop 4).take k).map X9
theorem ani{h:List Int}{ns:List Nat}(h4:h.length=4):GQ ns.length (dQ h ns)=ns:=by
 unfold GQ dQ kY;rw[SC,Vu,TW (by omega),h4,Uy,Ve,Xy,SC,Tw (by simp),SP (by simp),XY]
 conv=>rhs;rw[<- List.map_id ns]
 exact Vz λn _=>by simp
def uK (x:ak)(h:List Int)(a:List Int):List (List Int):=(ij x h (GQ x.pieces.length a)).map (dx h (GQ x.pieces.length a))
theorem LV{x:ak}{h:List Int}{ns:List Nat}(h4:h.length=4)(hn:ns.length=x.pieces.length):uK x h (dQ h ns)=(ij x h ns).map (dx h ns):=by
 unfold uK;rw[<- hn,ani h4]
theorem arB{x:ak}{h:List Int}{deep:Int}(h4:h.length=4):jf x deep h=rP deep (((fP x h).map (dQ h)).map (uK x h)):=by
 rw[XY];have:(fP x h).map (uK x h∘dQ h)=(fP x h).map λns=>(ij x h ns).map λos=>dx h ns os:=Vz λns hm=>LV h4 (MD hm);rw[this];rfl
end Tk
section
variable {lv:Bool}
theorem Jn{H:List aa}{k kp:AV->List aa->Prop}{x:ak}{h:List Int}{deep:Int}(hk:k (.fn (.func 91) [] [.op H.length 0,.op (H.length+1) 0,.op (H.length+2) 0]) (H++[.cells x.l 76,.cells (h.map iv) 83,.cells [iv deep] 3])):bm lv SA 66 H [x.av,.agg (h.map iv),iv deep] k kp:=by
 refine bG (rs:=[.tmp 6]) (nt:=8) Tryz.f66 λhH hA=> ?_;simp only[br,SW,ak.av];refine am ?_;refine aj ?_;simp only[seval,Ua,UC,Uj,TN];refine bi ?_;exact bX hk
theorem Jr{x:ak}{h:List Int}{deep:Int}{N ir ih id:Nat}{yv pv:AV}{S:Type}{f:S->List Int->dA S}{Gf:S->List aa}{I:S->Prop}{A:List Int->Prop}{σ:S}{k kp:AV->List aa->Prop}(hx:x.Ok)(hh:mm h)(hY:jC lv SA yv f Gf N I A pv)(hr:∀σ L,(Gf σ++L)[ir]?=some (.cells x.l 76))(hi:∀σ L,(Gf σ++L)[ih]?=some (.cells (h.map iv) 83))(hd:∀σ L,(Gf σ++L)[id]?=some (.cells [iv deep] 3))
  (lZ:∀n,Lt n pv) (hI:I σ) (pP:∀a,A a->a.length=11) (hA:∀ns∈fP x h,∀a∈(ij x h ns).map (dx h ns),A a) (hk:fS Gf pv k kp [] (bD f (jf x deep h) σ)):bm lv SA 91 (Gf σ) [yv,.op ir 0,.op ih 0,.op id 0] k kp:=by
 refine Qg (rs:=[]) (nt:=44) F.f91 rfl rfl rfl (by simp) λhH ug=> ?_;simp only[br,SW];have hN:=hY.len σ;have xU:=hx.di;have bM:x.l=[iv x.first,iv x.hours,iv x.an,dC x.seen,aT x.pieces,aT x.aC]:=rfl;have na:(h.map iv).length=4:=by rw[Tn,hh.len]
 refine mV ?_;refine aj ?_;simp only[seval,hY.parts];refine afw ?_;refine mV ?_;refine am ?_;refine Iz ?_;refine mV ?_;refine aj ?_;simp only[seval,hr,bM,aT];refine Iy ?_;refine cP ?_;refine iu x.aC.length (λi:Nat=>[(14,iv i)]) (λi=>Gf σ++[.cells [yv] 132,.cells ((mW (x.aC.map (bU h)) i).map λn=>wv n) 81]) (λi=>True) (λ_ _=>rfl) (by simp only[seval];simp[bC,Wk.refl]) rfl (λ_ _ _=>by simp) trivial (λcq dG i cR _ R hR=> ?_);refine am ?_;refine aF ?_;refine⟨λhc=> ?_,λhc=> ?_⟩
 ·have bF:i<x.aC.length:=by omega
  obtain⟨y,hy⟩:=cj bF;have uI:(x.aC.map (bU h))[i]?=some (bU h y):=by rw[Tm,hy];rfl
  have b3:(0<=(i:Int)/\(i:Int)<3)=True:=by simp;omega
  have bP:SD.wrap ((i:Int)+1)=((i+1:Nat):Int):=by rw[bB _ (by omega)];rfl
  have cK:(mW (x.aC.map (bU h)) i).length=3:=OZ (by simp;omega) (by simpa using xU);have vR:((mW (x.aC.map (bU h)) i).map λn=>wv n).length=3:=by rw[Tn,cK]
  refine aO ?_;refine aj ?_;simp only[seval,DE hy,jE bF];refine aj ?_;simp only[seval,hi,na];rw[SP (i:=4) (l:=h.map iv) (by rw[na];exact SQ _)];refine aL ((ER (h:=h) (y:=y) hh ?_));(try simp only[seval,b3,vR]);refine⟨by omega,?_⟩;rw[Np (g:=λn=>wv n) (show i<(mW (x.aC.map (bU h)) i).length by omega),afK uI (by simpa using xU)];refine aj ?_;simp only[seval,bP];exact hR _ ⟨bF,trivial,AE (po rfl rfl) (by simp only[seval];simp[bC,Wk.refl]) (R_ (L:=[_]) cq (abp _ _)) (by simp[eC])⟩
 have:i=x.aC.length:=by omega
 subst this;clear hc cR;refine cp ?_;have Ab:∃r,mW (x.aC.map (bU h)) x.aC.length=x.aC.map (bU h)++r:=⟨_,by
  have:=afJ (l:=x.aC.map (bU h));simpa using this⟩
 have xS:(mW (x.aC.map (bU h)) x.aC.length).length=3:=OZ (by simp) (by simpa using xU);have Lf:((mW (x.aC.map (bU h)) x.aC.length).map λn=>wv n).length=3:=by rw[Tn,xS]
 generalize mW (x.aC.map (bU h)) x.aC.length=qs at Ab xS Lf;refine mV ?_;(repeat apply iF);refine OH ?_;simp only[seval];refine mV ?_;refine aj ?_;simp only[seval,hr,bM,hi,na];rw[SP (i:=4) (l:=h.map iv) (by rw[na];exact SQ _)];refine aL ((aik (x:=x) (h:=h) ?_));(try simp only[seval]);refine afs ?_;refine afv (by rfl) λl fn T ag bo hT xz pX=> ?_;(try simp only[seval]);rw[hN]at hT⊢;have h4:=hh.len;have ajq:jC lv SA (.fn (.yield l) [] []) (pB f deep (uK x h)) (λm:S×Lp=>Gf m.1++[.cells [yv] 132,.cells (qs.map λn=>wv n) 81,.cells x.l 76,.cells (h.map iv) 83,.obj (.deferred (some [])),.loop l m.2.st m.2.pe fn T 44 #[28] ag bo (N+4)]) (N+6) (λm=>I m.1/\m.2=.ready) (λa=>∃ns∈fP x h,a=dQ h ns) pv:=by
  have g3:∀(σ:S)(L:List aa),(Gf σ++L)[N+1]?=L[1]?:=λσ L=>hY.get σ L 1;have g5:∀(σ:S)(L:List aa),(Gf σ++L)[N+5]?=L[5]?:=λσ L=>hY.get σ L 5;have s5:∀(σ:S)(L:List aa) y,(Gf σ++L).set (N+5) y=Gf σ++L.set 5 y:=λσ L y=>hY.set σ L 5 y;refine⟨λm a M k kp hm ha dM=> ?_,λm a m' hm ha he=> ?_,λm=>by simp[hY.len],λq m m' hz z eT=> ?_,rfl,rfl,rfl⟩
  ·obtain⟨σ,lp⟩:=m;obtain⟨JS,gf⟩:=hm;replace JS:I σ:=JS;replace gf:lp=.ready:=gf;subst gf;obtain⟨ns,iA,rfl⟩:=ha;have ju:=MD iA;have qj:(dQ h ns).length=11:=(by simp[dQ,h4,AA (k:=4) (l:=ns) (by have:=hx.dY;omega)]);have Ah:((dQ h ns).map iv).length=11:=(by rw[Tn,qj]);obtain⟨Lo,kK⟩:∃Lo,Lo=aa.loop l .busy none fn T 44 #[28] ag bo (N+4):=⟨_,rfl⟩;obtain⟨P1,dq⟩:∃P1:S->List aa,∀σ,P1 σ=Gf σ++([.cells [yv] 132,.cells (qs.map λn=>wv n) 81,.cells x.l 76,.cells (h.map iv) 83,.obj (.deferred (some [])),Lo]++M):=⟨_,λ_=>rfl⟩;have ee:∀σ,(P1 σ).length=N+6+M.length:=λσ=>(by rw[dq];simp[hY.len];omega);have pg:∀(σ:S)(L:List aa)(i:Nat),i<6->(P1 σ++L)[N+i]?=[aa.cells [yv] 132,.cells (qs.map λn=>wv n) 81,.cells x.l 76,.cells (h.map iv) 83,.obj (.deferred (some [])),Lo][i]?:=λσ L i KH=>by
    rw[dq,SC,hY.get,SC,SX (by simpa using KH)]
   have pr:∀(σ:S)(L:List aa),(P1 σ++L)[ir]?=some (.cells x.l 76):=λσ L=>(by rw[dq,SC];exact hr σ _);have pd:∀(σ:S)(L:List aa),(P1 σ++L)[id]?=some (.cells [iv deep] 3):=λσ L=>(by rw[dq,SC];exact hd σ _);have pb:∀(σ:S)(L:List aa)(i:Nat),(P1 σ++L)[N+6+M.length+i]?=L[i]?:=λσ L i=>(by rw[<- ee σ,ba]);have wy:∀(σ:S)(L:List aa),(P1 σ++L)[N+6+M.length]?=L[0]?:=λσ L=>pb σ L 0;have pg1:∀(σ:S)(L:List aa),(P1 σ++L)[N+1]?=some (.cells (qs.map λn=>wv n) 81):=λσ L=>pg σ L 1 (by omega);have pg0:∀(σ:S)(L:List aa),(P1 σ++L)[N]?=some (.cells [yv] 132):=λσ L=>pg σ L 0 (by omega);have Rg:∀(τ:S)(lp:Lp),bH (Gf σ++(([aa.cells [yv] 132,.cells (qs.map λn=>wv n) 81,.cells x.l 76,.cells (h.map iv) 83,.obj (.deferred (some [])),.loop l .ready none fn T 44 #[28] ag bo (N+4)]:List aa)++M))->bH (Gf τ++(([aa.cells [yv] 132,.cells (qs.map λn=>wv n) 81,.cells x.l 76,.cells (h.map iv) 83,.obj (.deferred (some [])),.loop l lp.st lp.pe fn T 44 #[28] ag bo (N+4)]:List aa)++M)):=λτ lp g_ z hz=>by
    have hlen:(Gf τ++(([aa.cells [yv] 132,.cells (qs.map λn=>wv n) 81,.cells x.l 76,.cells (h.map iv) 83,.obj (.deferred (some [])),.loop l lp.st lp.pe fn T 44 #[28] ag bo (N+4)]:List aa)++M)).length=(Gf σ++(([aa.cells [yv] 132,.cells (qs.map λn=>wv n) 81,.cells x.l 76,.cells (h.map iv) 83,.obj (.deferred (some [])),.loop l .ready none fn T 44 #[28] ag bo (N+4)]:List aa)++M)).length:=(by simp[hY.len]);have hl:=g_ (.loop l .ready none fn T 44 #[28] ag bo (N+4)) (by simp);rw[hlen];rcases SS.1 hz with h'|h'
    ·exact hY.ok _ σ τ (λw hw=>g_ w (Tf _ hw)) z h'
    ·rcases SS.1 h' with h'|h'
     ·simp only[SK,SZ,or_false]at h';rcases h' with rfl|rfl|rfl|rfl|rfl|rfl
      ·exact g_ _ (by simp)
      ·exact g_ _ (by simp)
      ·exact g_ _ (by simp)
      ·exact g_ _ (by simp)
      ·exact g_ _ (by simp)
      ·exact hl
     ·exact g_ z (S0 _ (S0 _ h'))
   have Jt:bH (Gf σ++(([aa.cells [yv] 132,.cells (qs.map λn=>wv n) 81,.cells x.l 76,.cells (h.map iv) 83,.obj (.deferred (some [])),.loop l .ready none fn T 44 #[28] ag bo (N+4)]:List aa)++M))->∀(τ:S)(lp:Lp)(b':Bool)(TT:List (Nat×AV))(L:List aa),k (bv b') ((Gf τ++[.cells [yv] 132,.cells (qs.map λn=>wv n) 81,.cells x.l 76,.cells (h.map iv) 83,.obj (.deferred (some [])),.loop l lp.st lp.pe fn T 44 #[28] ag bo (N+4)])++M)->oK (N+5) (N+6+M.length) k lp.st lp.pe b' ⟨TT,P1 τ++L⟩:=λg_ τ lp b' TT L dM=>by
    refine⟨l,.busy,none,fn,T,44,#[28],ag,bo,N+4,by show (P1 τ++L)[_]?=_;rw[pg τ _ 5 (by omega),kK];rfl,?_⟩;show cC (N+6+M.length) ((P1 τ++L).set _ _) _ k;rw[dq,SC,s5];rw[SC]at dM;exact jH (G:=L) (Wk.refl _) (by simp) (by simp[hY.len];omega) (Rg τ lp g_) (.val _) dM
   have aiA:bH (Gf σ++(([aa.cells [yv] 132,.cells (qs.map λn=>wv n) 81,.cells x.l 76,.cells (h.map iv) 83,.obj (.deferred (some [])),.loop l .ready none fn T 44 #[28] ag bo (N+4)]:List aa)++M))->∀(τ:S)(L:List aa),kp pv ((Gf τ++[.cells [yv] 132,.cells (qs.map λn=>wv n) 81,.cells x.l 76,.cells (h.map iv) 83,.obj (.deferred (some [])),.loop l Lp.busy.st Lp.busy.pe fn T 44 #[28] ag bo (N+4)])++M)->cC (N+6+M.length) (P1 τ++L) pv kp:=λg_ τ L dM=>by
    rw[SC]at dM;rw[dq,kK];exact jH (G:=L) (Wk.refl _) rfl (by simp[hY.len];omega) (Rg τ .busy g_) (lZ _) dM
   subst hT xz pX;rw[SC];refine vA (id:=N+5) (by rw[g5];rfl) rfl (by kernel_rfl) λn4 JN=> ?_;simp only[r6];have vU:TR 11 [iv 0,iv 0,iv 0,iv 0,iv 0,iv 0,iv 0,iv 0,iv 0,iv 0,iv 0]=[]:=rfl;refine aj ?_;simp only[seval,qj,vU];unfold tS;refine⟨none,fn,_,44,#[28],_,_,_,by rw[g5];rfl,?_⟩;dsimp only;rw[s5];simp only[UE,T1];rw[<- kK];have xr:(Gf σ).length+(M.length+1+1+1+1+1+1)=N+6+M.length:=(by rw[hY.len];omega);rw[xr];have xI:∀z:aa,Gf σ++aa.cells [yv] 132::aa.cells (U8 (λn=>wv n) qs) 81::aa.cells x.l 76::aa.cells (U8 iv h) 83::aa.obj (atX (some []))::Lo::(M++[z])=P1 σ++[z]:=λz=>(by rw[dq];simp);rw[xI];refine aj ?_;simp only[seval,pr,bM,wy,pg1,Ah,qj,Lf,xS];rw[SP (i:=11) (l:=(dQ h ns).map iv) (by rw[Ah];exact SQ _),SP (i:=3) (l:=qs.map λn=>wv n) (by rw[Lf];exact SQ _)];refine aL ((ail (x:=x) (tc:=dQ h ns) (qs:=qs) ?_));(try simp only[seval]);refine cP ?_;have p9:∀(σ:S)(a b c d:aa),(P1 σ++[a,b,c,d]).length=N+6+M.length+4:=λσ a b c d=>(by simp[ee]);refine Ew (N+5) (by rfl) (by show (P1 σ++_)[N+5]?=_;rw[pg σ _ 5 (by omega),kK];rfl) λl2 eG T2 gq gr n9 xA xC=> ?_;simp only[seval];rw[ee]at n9⊢;have As:∀(σ τ:S)(L L':List aa),L'.length=L.length->(∀q,(∀z∈L,eK q z)->∀z∈L',eK q z)->bH (P1 σ++L)->bH (P1 τ++L'):=λσ τ L L' hl hL hH z hz=>by
    have hlen:(P1 τ++L').length=(P1 σ++L).length:=(by simp[ee,hl]);rw[hlen];rcases SS.1 hz with h'|h'
    ·rw[dq]at h';rcases SS.1 h' with h'|h'
     ·exact hY.ok _ σ τ (λw hw=>hH w (Tf _ (by rw[dq];exact Tf _ hw))) z h'
     ·exact hH z (Tf _ (by rw[dq];exact S0 _ h'))
    ·exact hL _ (λw hw=>hH w (S0 _ hw)) z h'
   have xy:∀tc:List Int,jC lv SA (.fn (.yield l2) [] []) (iS f deep) (λm:S×Lp=>P1 m.1++[.cells ((dQ h ns).map iv) 86,.cells x.l 76,.cells (tc.map iv) 86,.cells (qs.map λn=>wv n) 81,.loop l2 m.2.st m.2.pe eG T2 44 #[33] gq gr (N+4)]) (N+6+M.length+5) (λm=>I m.1/\m.2=.ready) A pv:=λtc=>by
    refine⟨λm b M2 k2 yd hm hb kR=> ?_,λm b m' hm hb he=> ?_,λm=>by simp[ee],λq m m' hz z eT=> ?_,rfl,rfl,rfl⟩
    ·obtain⟨σ',lp⟩:=m;obtain⟨JU,gf⟩:=hm;replace JU:I σ':=JU;replace gf:lp=.ready:=gf;subst gf;have cK:b.length=11:=pP b hb;have vR:(b.map iv).length=11:=(by rw[Tn,cK]);obtain⟨pF,sI⟩:∃Lo,Lo=aa.loop l2 .busy none eG T2 44 #[33] gq gr (N+4):=⟨_,rfl⟩;obtain⟨Q1,fW⟩:∃Q1:S->List aa,∀σ,Q1 σ=P1 σ++([.cells ((dQ h ns).map iv) 86,.cells x.l 76,.cells (tc.map iv) 86,.cells (qs.map λn=>wv n) 81,pF]++M2):=⟨_,λ_=>rfl⟩;obtain⟨C,hC⟩:∃C,C=N+6+M.length+5+M2.length:=⟨_,rfl⟩;have J3:∀σ,(Q1 σ).length=C:=λσ=>(by rw[fW,hC];simp[ee];omega);have lM:∀(σ:S)(L:List aa),(P1 σ++L)[N+6+M.length+4]?=L[4]?:=λσ L=>pb σ L 4;have pz:∀(σ:S)(L:List aa)(y:aa),(P1 σ++L).set (N+6+M.length+4) y=P1 σ++L.set 4 y:=λσ L y=>(by rw[<- ee σ,dJ]);have qN:∀(σ:S)(L:List aa),(Q1 σ++L)[N]?=some (.cells [yv] 132):=λσ L=>(by rw[fW,SC];exact pg0 σ _);have qd:∀(σ:S)(L:List aa),(Q1 σ++L)[id]?=some (.cells [iv deep] 3):=λσ L=>(by rw[fW,SC];exact pd σ _);have q4:∀(σ:S)(L:List aa),(Q1 σ++L)[N+6+M.length+4]?=some pF:=λσ L=>(by rw[fW,SC,lM];rfl);have qc:∀(σ:S)(L:List aa),(Q1 σ++L)[C]?=L[0]?:=λσ L=>(by rw[<- J3 σ];exact ba _ L 0);have Nb:∀(σ:S)(L:List aa)(y:aa),(Q1 σ++L).set (N+6+M.length+4) y=(P1 σ++([.cells ((dQ h ns).map iv) 86,.cells x.l 76,.cells (tc.map iv) 86,.cells (qs.map λn=>wv n) 81,y]++M2))++L:=λσ L y=>(by rw[fW,SC,pz];simp);obtain⟨Mz,Fj⟩:∃Mz:List aa,∀σ,Q1 σ++[.cells (b.map iv) 86]=Gf σ++Mz:=⟨_,λσ=>by rw[fW,dq,SC,SC]⟩;have fy:∀(τ:S)(lp:Lp),bH (P1 σ'++([.cells ((dQ h ns).map iv) 86,.cells x.l 76,.cells (tc.map iv) 86,.cells (qs.map λn=>wv n) 81,.loop l2 .ready none eG T2 44 #[33] gq gr (N+4)]++M2))->bH (P1 τ++([.cells ((dQ h ns).map iv) 86,.cells x.l 76,.cells (tc.map iv) 86,.cells (qs.map λn=>wv n) 81,.loop l2 lp.st lp.pe eG T2 44 #[33] gq gr (N+4)]++M2)):=λτ lp g_=>As σ' τ _ _ (by simp) (λq hz z eT=>by
      have hl:=hz (.loop l2 .ready none eG T2 44 #[33] gq gr (N+4)) (by simp);rcases SS.1 eT with h'|h'
      ·simp only[SK,SZ,or_false]at h';rcases h' with rfl|rfl|rfl|rfl|rfl
       ·exact hz _ (by simp)
       ·exact hz _ (by simp)
       ·exact hz _ (by simp)
       ·exact hz _ (by simp)
       ·exact hl
      ·exact hz _ (S0 _ h')) g_
     have gg:cV (λm:S×Lp=>P1 m.1++[.cells ((dQ h ns).map iv) 86,.cells x.l 76,.cells (tc.map iv) 86,.cells (qs.map λn=>wv n) 81,.loop l2 m.2.st m.2.pe eG T2 44 #[33] gq gr (N+4)]) pv k2 yd M2 (iS f deep (σ',.ready) b):=kR;have Kv:∀z:aa,P1 σ'++(aa.cells (U8 iv (dQ h ns)) 86::aa.cells x.l 76::aa.cells (U8 iv tc) 86::aa.cells (U8 (λn=>wv n) qs) 81::pF::(M2++[z]))=Q1 σ'++[z]:=λz=>(by rw[fW];simp);have EU:bH (P1 σ'++([.cells ((dQ h ns).map iv) 86,.cells x.l 76,.cells (tc.map iv) 86,.cells (qs.map λn=>wv n) 81,.loop l2 .ready none eG T2 44 #[33] gq gr (N+4)]++M2))->∀(τ:S)(lp:Lp)(b':Bool)(TT:List (Nat×AV)),k2 (bv b') ((P1 τ++[.cells ((dQ h ns).map iv) 86,.cells x.l 76,.cells (tc.map iv) 86,.cells (qs.map λn=>wv n) 81,.loop l2 lp.st lp.pe eG T2 44 #[33] gq gr (N+4)])++M2)->oK (N+6+M.length+4) C k2 lp.st lp.pe b' ⟨TT,Gf τ++Mz⟩:=λg_ τ lp b' TT dM=>by
      refine⟨l2,.busy,none,eG,T2,44,#[33],gq,gr,N+4,by show (Gf τ++Mz)[_]?=_;rw[<- Fj,q4,sI],?_⟩;show cC C ((Gf τ++Mz).set _ _) _ k2;rw[<- Fj,Nb];rw[SC]at dM;exact jH (G:=[.cells (b.map iv) 86]) (Wk.refl _) rfl (by rw[hC];simp[ee];omega) (fy τ lp g_) (.val _) dM
     have aiz:bH (P1 σ'++([.cells ((dQ h ns).map iv) 86,.cells x.l 76,.cells (tc.map iv) 86,.cells (qs.map λn=>wv n) 81,.loop l2 .ready none eG T2 44 #[33] gq gr (N+4)]++M2))->∀τ:S,yd pv ((P1 τ++[.cells ((dQ h ns).map iv) 86,.cells x.l 76,.cells (tc.map iv) 86,.cells (qs.map λn=>wv n) 81,.loop l2 Lp.busy.st Lp.busy.pe eG T2 44 #[33] gq gr (N+4)])++M2)->cC C (Gf τ++Mz) pv yd:=λg_ τ dM=>by
      rw[<- Fj,fW,sI];rw[SC]at dM;exact jH (G:=[.cells (b.map iv) 86]) (Wk.refl _) rfl (by rw[hC];simp[ee];omega) (fy τ .busy g_) (lZ _) dM
     subst n9 xA xC;rw[SC];refine vA (id:=N+6+M.length+4) (by rw[lM];rfl) rfl (by kernel_rfl) λq_ JO=> ?_;simp only[r6];refine aj ?_;simp only[seval,cK,vU];unfold tS;refine⟨none,eG,_,44,#[33],_,_,_,by rw[lM];rfl,?_⟩;dsimp only;rw[pz];simp only[UE,T1];rw[<- sI];have B6:(P1 σ').length+(M2.length+1+1+1+1+1)=C:=(by rw[ee,hC];omega);rw[B6,Kv];refine aj ?_;simp only[seval,qN,qc,cK,vR];rw[SP (i:=11) (l:=b.map iv) (by rw[vR];exact SQ _),Fj];refine w_ (hY.call σ' b Mz _ _ JU hb ?_);unfold iS at gg;rw[show f (σ',Lp.ready).1 b=f σ' b from rfl]at gg;cases hf:f σ' b with
     |go τ=>
      rw[hf]at gg;dsimp only at gg;simp only[cV];(try simp only[seval,hd]);refine aF ?_;refine⟨λh0=> ?_,λh0=> ?_⟩
      ·replace h0:deep=0:=(by simpa using h0);rw[if_pos h0]at gg;simp only[cV]at gg;refine bi ?_;exact EU q_ τ .ret false _ gg
      ·replace h0:¬deep=0:=(by simpa using h0);rw[if_neg h0]at gg;refine aO ?_;refine aj ?_;simp only[seval,hd];refine aF ?_;refine⟨λh1=> ?_,λh1=> ?_⟩
       ·replace h1:deep=1:=(by simpa using h1);rw[if_pos h1]at gg;simp only[cV]at gg;refine cp ?_;exact EU q_ τ (.exit 3) false _ gg
       ·replace h1:¬deep=1:=(by simpa using h1);rw[if_neg h1]at gg;simp only[cV]at gg;refine aO ?_;exact EU q_ τ .ready true _ gg
     |stop τ=>
      rw[hf]at gg;dsimp only at gg;simp only[cV]at gg⊢;(try simp only[seval]);refine aF ?_;refine bi ?_;exact EU q_ τ .ret false _ gg
     |bad τ=>
      rw[hf]at gg;dsimp only at gg;simp only[cV]at gg⊢;exact aiz q_ τ gg
    ·obtain⟨σ',lp⟩:=m;obtain⟨τ,C_⟩:=m';unfold iS at he;have hi:=(hY.inv σ' b τ hm.1 hb);cases hf:f σ' b with
     |go τ'=>
      rw[show f (σ',lp).1 b=f σ' b from rfl,hf]at he;dsimp only at he;by_cases h0:deep=0
      ·rw[if_pos h0]at he;cases he
      ·rw[if_neg h0]at he;by_cases h1:deep=1
       ·rw[if_pos h1]at he;cases he
       ·rw[if_neg h1]at he;cases he;exact⟨hi hf,rfl⟩
     |stop τ'=>rw[show f (σ',lp).1 b=f σ' b from rfl,hf]at he;cases he
     |bad τ'=>rw[show f (σ',lp).1 b=f σ' b from rfl,hf]at he;cases he
    ·rcases SS.1 eT with h'|h'
     ·rw[dq]at h';rcases SS.1 h' with h'|h'
      ·exact hY.ok q m.1 m'.1 (λw hw=>hz w (Tf _ (by rw[dq];exact Tf _ hw))) z h'
      ·exact hz z (Tf _ (by rw[dq];exact S0 _ h'))
     ·have hl:=hz _ (S0 _ (Tc (i:=4) rfl));simp only[SK,SZ,or_false]at h';rcases h' with rfl|rfl|rfl|rfl|rfl
      ·exact hz _ (S0 _ (by simp))
      ·exact hz _ (S0 _ (by simp))
      ·exact hz _ (S0 _ (by simp))
      ·exact hz _ (S0 _ (by simp))
      ·exact hl
   have e1:pB f deep (uK x h) (σ,.ready) (dQ h ns)=kE (bD (iS f deep) ((ij x h ns).map (dx h ns)) (σ,.ready)):=(by unfold pB;rw[LV h4 ju]);rw[e1]at dM;refine c9 (ahx (x:=x) (h:=h) (ns:=ns) (qs:=qs) (N:=N+6+M.length+5) (ir:=N+6+M.length+1) (it:=N+6+M.length+2) (is:=N+6+M.length+3) (tc:=dQ h ns) (σ:=(σ,Lp.ready)) hx h4 ju xy (λtc m L=> ?_) (λtc m L=> ?_) (λtc d_ m L=> ?_) (λtc m L=> ?_) Ab xS (λq tc d_ m hz z eT=> ?_) lZ rfl ⟨JS,rfl⟩ (hA ns iA) (λd_ atr=> ?_))
   ·rw[SC];exact pb _ _ 1
   ·rw[SC];exact pb _ _ 2
   ·rw[SC,<- ee m.1,dJ,SC];rfl
   ·rw[SC];exact pb _ _ 3
   ·rcases SS.1 eT with h'|h'
    ·exact hz z (Tf _ h')
    ·simp only[SK,SZ,or_false]at h';rcases h' with rfl|rfl|rfl|rfl|rfl
     ·exact hz _ (by simp)
     ·exact hz _ (by simp)
     ·exact anz _ _ _
     ·exact hz _ (by simp)
     ·exact hz _ (by simp)
   have lM:∀(σ:S)(L:List aa),(P1 σ++L)[N+6+M.length+4]?=L[4]?:=λσ L=>pb σ L 4;have pz:∀(σ:S)(L:List aa)(y:aa),(P1 σ++L).set (N+6+M.length+4) y=P1 σ++L.set 4 y:=λσ L y=>(by rw[<- ee σ,dJ]);cases cR:bD (iS f deep) ((ij x h ns).map (dx h ns)) (σ,.ready)with
   |go m=>
    obtain⟨τ,lp⟩:=m;have gf:lp=.ready:=AF (I:=λm:S×Lp=>m.2=.ready) (A:=λ_=>True) (λs a s' _ _ e=>arv e) _ _ _ (λ_ _=>trivial) rfl cR;subst gf;rw[cR]at dM;simp only[kE,cV]at dM;simp only[fS,SN];refine⟨.ready,none,_,_,_,_,_,_,_,by rw[lM];rfl,by decide,?_⟩;rw[pz,Hb];(try simp only[seval]);exact Jt n4 τ .ready true _ _ dM
   |stop m=>
    obtain⟨τ,lp⟩:=m;have gf:lp=.ret\/lp=.exit 3:=by
     obtain⟨_,_,q⟩:=Ni cR;exact arw q
    rw[cR]at dM;rcases gf with rfl|rfl
    ·simp only[kE,cV]at dM;simp only[fS,SN];refine⟨.done,some .ret,_,_,_,_,_,_,_,by rw[lM];rfl,by decide,?_⟩;rw[pz,aod];(try simp only[seval]);exact Jt n4 τ .ret false _ _ dM
    ·simp only[kE,cV]at dM;simp only[fS,SN];refine⟨.done,some (.exit 3),_,_,_,_,_,_,_,by rw[lM];rfl,by decide,?_⟩;rw[pz,aoc];(try simp only[seval]);exact Jt n4 τ .ready true _ _ dM
   |bad m=>
    obtain⟨τ,lp⟩:=m;rw[cR]at dM;simp only[kE,cV]at dM;simp only[fS,SN];exact aiA n4 τ _ dM
  ·obtain⟨σ',lp⟩:=m;obtain⟨τ,C_⟩:=m';obtain⟨ns,iA,rfl⟩:=ha;have e1:pB f deep (uK x h) (σ',lp) (dQ h ns)=kE (bD (iS f deep) ((ij x h ns).map (dx h ns)) (σ',.ready)):=(by unfold pB;rw[LV h4 (MD iA)]);rw[e1]at he;exact aeF hY.inv (hA ns iA) hm.1 he
  ·rcases SS.1 eT with h'|h'
   ·exact hY.ok q m.1 m'.1 (λw hw=>hz w (Tf _ hw)) z h'
   ·have hl:=hz _ (S0 _ (Tc (i:=5) rfl));simp only[SK,SZ,or_false]at h';rcases h' with rfl|rfl|rfl|rfl|rfl|rfl
    ·exact hz _ (S0 _ (by simp))
    ·exact hz _ (S0 _ (by simp))
    ·exact hz _ (S0 _ (by simp))
    ·exact hz _ (S0 _ (by simp))
    ·exact hz _ (S0 _ (by simp))
    ·exact hl
 obtain⟨dV,uC⟩:=adi (f:=f) (deep:=deep) (L:=uK x h) ((fP x h).map (dQ h)) σ;rw[<- arB h4]at dV;have g4:∀(σ:S)(L:List aa),(Gf σ++L)[N+4]?=L[4]?:=λσ L=>hY.get σ L 4;have g5:∀(σ:S)(L:List aa),(Gf σ++L)[N+4+1]?=L[5]?:=λσ L=>hY.get σ L 5;have s4:∀(σ:S)(L:List aa) y,(Gf σ++L).set (N+4) y=Gf σ++L.set 4 y:=λσ L y=>hY.set σ L 4 y;have s5:∀(σ:S)(L:List aa) y,(Gf σ++L).set (N+4+1) y=Gf σ++L.set 5 y:=λσ L y=>hY.set σ L 5 y;have rM:∀n,Lt n (.aN []):=λn=>by simp[jx]
 refine c9 (ahv (x:=x) (h:=h) (N:=N+6) (ir:=N+2) (ih:=N+3) (σ:=(σ,Lp.ready)) hx hh ajq (λm L=> ?_) (λm L=> ?_) lZ ⟨hI,rfl⟩ (λa ha=> ?_) ?_)
 ·rw[SC,hY.get m.1 _ 2];rfl
 ·rw[SC,hY.get m.1 _ 3];rfl
 ·obtain⟨ns,h1,rfl⟩:=Tl.1 ha;exact⟨ns,h1,rfl⟩
 cases bI:bD (pB f deep (uK x h)) ((fP x h).map (dQ h)) (σ,.ready)with
 |go m=>
  obtain⟨σ',lp⟩:=m;have gf:lp=.ready:=uC _ bI;subst gf;rw[bI]at dV;have aJ:=Nf (r':=.go σ') dV.symm hk;simp only[fS,SN]at aJ⊢;refine⟨.ready,none,_,_,_,_,_,_,_,by rw[g5];rfl,by decide,?_⟩;rw[s5];simp only[UE,T1];rw[Ha];(try simp only[seval]);rw[zx (by rw[g4];rfl),zy,s4];(try simp only[seval]);rw[<- hN];exact uY hY hH rM aJ
 |stop m=>
  obtain⟨σ',lp⟩:=m;have gf:lp=.ret:=by
   obtain⟨_,_,q⟩:=Ni bI;exact ars q
  subst gf;rw[bI]at dV;have aJ:=Nf (r':=.stop σ') dV.symm hk;simp only[fS,SN]at aJ⊢;refine⟨.done,some .ret,_,_,_,_,_,_,_,by rw[g5];rfl,by decide,?_⟩;rw[s5];simp only[UE,T1];rw[aob];(try simp only[seval]);rw[zx (by rw[g4];rfl),zy,s4];(try simp only[seval]);rw[<- hN];exact uY hY hH rM aJ
 |bad m=>
  obtain⟨σ',lp⟩:=m;rw[bI]at dV;have aJ:=Nf (r':=.bad σ') dV.symm hk;simp only[fS,SN]at aJ⊢;rw[zx (by rw[g4];rfl),zy,s4];rw[Av,<- hN];exact uY hY hH lZ aJ
end
open Go.Conc Go.Proofs Go.Gg.Tk
namespace Tk
def mw (x y:Int):Int:=if x<y then -1 else if y<x then 1 else 0
def nW:List Int->List Int->Int
 |a::l,b::m=>if mw a b≠0 then mw a b else nW l m
 |[],[]=>0
 |[],_::_=> -1
 |_::_,[]=>1
def sw (a b:List Int):Bool:=if a.take 4=b.take 4 then(if nW ((a.drop 4).take 4) ((b.drop 4).take 4)≠0 then decide (nW ((a.drop 4).take 4) ((b.drop 4).take 4)<0)else decide (nW (a.drop 8) (b.drop 8)<0))else decide (nW (a.take 4) (b.take 4)<0)
end Tk
theorem EM{ca pa ra:List AV}{xs:List Int}{o i:Nat}{x:Int}(hc:ca=pa++(xs.map iv++ra))(ho:pa.length=o)(h:xs[i]?=some x):ca.drop (o+i)=iv x::((xs.drop (i+1)).map iv++ra):=by
 subst hc ho;rw[Vu,TW (by omega),Uy,show pa.length+i-pa.length=i by omega,Vu,kG h,show i-(xs.map iv).length=0 by have:=eI h;simp;omega,Xy];rfl
section
variable {lv:Bool}{H:List aa}{k kp:AV->List aa->Prop}
theorem PX{x:Int}(hk:k (bv false) H):bm lv SA 143 H [iv x] k kp:=by
 refine bG (rs:=[.tmp 2]) (nt:=6) Tryz.f143 λhH hA=> ?_;simp only[br,SW];refine am ?_;refine aj ?_;simp only[seval,bne_self_eq_false];refine bi ?_;refine bX ?_;simpa using hk
theorem ahA{x y:Int}(hk:k (iv (mw x y)) H):bm lv SA 142 H [iv x,iv y] k kp:=by
 refine bG (rs:=[.tmp 4]) (nt:=20) Tryz.f142 λhH hA=> ?_;simp only[br,SW];refine am ?_;refine am ?_;refine aL ((PX ?_));(try simp only[seval]);refine am ?_;refine aL ((PX ?_));(try simp only[seval]);refine am ?_;refine aF ?_;refine aO ?_;refine am ?_;refine aF ?_;refine aO ?_;refine am ?_;refine aF ?_;refine⟨λh=> ?_,λh=> ?_⟩
 ·refine am ?_;refine bi ?_;rw[mw,if_pos h]at hk;exact bX hk
 ·refine aO ?_;refine am ?_;refine aF ?_;refine⟨λh2=> ?_,λh2=> ?_⟩
  ·refine am ?_;refine bi ?_;rw[mw,if_neg h,if_pos h2]at hk;exact bX hk
  ·refine aO ?_;refine am ?_;refine bi ?_;rw[mw,if_neg h,if_neg h2]at hk;exact bX hk
theorem Jf{xs ys:List Int}{ia oa ib ob ta tb:Nat}{ca cb pa ra pb rb:List AV}(ha:H[ia]?=some (.cells ca ta))(hb:H[ib]?=some (.cells cb tb))(hca:ca=pa++(xs.map iv++ra))(K_:pa.length=oa)(hcb:cb=pb++(ys.map iv++rb))(hpb:pb.length=ob)(hl:ys.length=xs.length)(h4:xs.length<=4)(hk:k (iv (nW xs ys)) H):
  bm lv SA 138 H [.bh ia oa xs.length xs.length,.bh ib ob ys.length ys.length] k kp:=by
 refine bG (rs:=[.tmp 4]) (nt:=36) Tryz.f138 λhH hA=> ?_;simp only[br,SW];refine am ?_;refine am ?_;refine cP ?_;refine w7 xs.length (λi:Nat=>[(11,iv i)]) (λ_=>H) (λi=>nW xs ys=nW (xs.drop i) (ys.drop i)) rfl (λcq dG i cR hI R hR=> ?_);refine am ?_;refine aF ?_;refine⟨λh=> ?_,λh=> ?_⟩
 ·have bF:i<xs.length:=by omega
  obtain⟨x,hx⟩:=cj bF;obtain⟨y,hy⟩:=cj (xs:=ys) (i:=i) (by omega);have bP:SD.wrap ((i:Int)+1)=((i+1:Nat):Int):=by rw[bB _ (by omega)];rfl
  have kT:nW xs ys=if mw x y≠0 then mw x y else nW (xs.drop (i+1)) (ys.drop (i+1)):=by rw[hI,vE hx,vE hy,nW]
  refine aO ?_;refine aj ?_;simp only[seval,ha,jE bF,EM hca K_ hx];refine am ?_;refine aF ?_;refine⟨λh2=>by exfalso;omega,λh2=> ?_⟩;refine aO ?_;refine aj ?_;simp only[seval,hb,jE (show i<ys.length by omega),EM hcb hpb hy];refine am ?_;refine aL ((ahA ?_));(try simp only[seval]);refine am ?_;refine aF ?_;refine⟨λh3=> ?_,λh3=> ?_⟩
  ·refine am ?_;refine bi ?_;rw[kT,if_pos (by simpa using h3)]at hk;exact bX hk
  ·refine aO ?_;refine aj ?_;simp only[seval,bP];refine hR _ ⟨bF,?_,dF⟩;rw[kT,if_neg (by simpa using h3)]
 ·have du:i=xs.length:=by omega
  subst du;refine cp ?_;refine aj ?_;simp only[seval,hl];refine aF ?_;refine⟨λh2=>by exfalso;omega,λh2=> ?_⟩;refine aO ?_;refine am ?_;refine bi ?_;rw[hI,List.drop_length,TW (WE hl),nW]at hk;exact bX hk
theorem F.DW:SA.underlying 83=some (.array 4 3):=by kernel_rfl
theorem F.u3:SA.underlying 3=some (.int .i64):=by kernel_rfl
theorem aeq{P:SI}{t e:TypeId}{k0:TY}{n:Nat}{xs ys:List Int}(ht:P.underlying t=some (.array n e))(he:P.underlying e=some (.int k0))(hs:(P.info? e).map (·.size)=some 1)(hg:P.eqGuardType P.depth t=false)(hx:xs.length=n)(hy:ys.length=n)(k:AV->Prop):
  dH P .neq t (.agg (xs.map iv)) (.agg (ys.map iv)) k=k (bv (!(xs==ys))):=by
 obtain⟨i,hi,hs⟩:=Tp.1 hs;have CN:=acV ht he hi hs hx hy;have e:dH P .neq t (.agg (xs.map iv)) (.agg (ys.map iv)) k=((Wt=.eql\/Wt=.neq)/\ap (AV.raw (.agg (xs.map iv))) λX=>ap (AV.raw (.agg (ys.map iv))) λY=>zl X Y=true/\P.eqGuardType P.depth t=false/\∃e,cI P (Xo t X Y) e/\k (.val (.bool (if Wt== .neq then !e else e)))):=rfl;rw[e,yr,yr,Av,Av];apply propext;constructor
 ·rintro⟨_,_,_,b,h1,h2⟩
  rw[CN.uniq h1];exact h2
 ·intro h;exact⟨.inr rfl,rfl,hg,_,CN,h⟩
theorem F.i3s:(SA.info? 3).map (·.size)=some 1:=by kernel_rfl
theorem F.g83:SA.eqGuardType SA.depth 83=false:=by kernel_rfl
theorem ahz{a b:List Int}(ha:a.length=11)(hb:b.length=11)(hk:k (bv (sw a b)) H):bm lv SA 128 H [.agg (a.map iv),.agg (b.map iv)] k kp:=by
 refine bG (rs:=[.tmp 4]) (nt:=32) Tryz.f128 λhH hA=> ?_;simp only[br,SW];have ham:(a.map iv).length=11:=by rw[Tn,ha]
 have vR:(b.map iv).length=11:=by rw[Tn,hb]
 have ea:a.map iv=(a.take 4).map iv++(((a.drop 4).take 4).map iv++(a.drop 8).map iv):=by
  rw[<- TE,<- TE];congr 1;have:(a.drop 4).take 4++a.drop 8=a.drop 4:=by
   conv=>rhs;rw[<- Vg 4 (a.drop 4)]
   rw[aj']
  rw[this,Vg]
 have eb:b.map iv=(b.take 4).map iv++(((b.drop 4).take 4).map iv++(b.drop 8).map iv):=by
  rw[<- TE,<- TE];congr 1;have:(b.drop 4).take 4++b.drop 8=b.drop 4:=by
   conv=>rhs;rw[<- Vg 4 (b.drop 4)]
   rw[aj']
  rw[this,Vg]
 refine am ?_;refine aj ?_;simp only[seval,ham,vR,ha,hb];have Ga:(a.take 4).length=4:=by simp[ha]
 have Lx:(b.take 4).length=4:=by simp[hb]
 have Lv:((a.drop 4).take 4).length=4:=by simp[ha]
 have Sz:((b.drop 4).take 4).length=4:=by simp[hb]
 have Lw:(a.drop 8).length=3:=by simp[ha]
 have aaa:(b.drop 8).length=3:=by simp[hb]
 rw[<- VU,<- VU,aeq F.DW F.u3 F.i3s F.g83 Ga Lx];refine aF ?_;refine⟨λh=> ?_,λh=> ?_⟩
 ·refine eM 4 ?_;simp only[seval];have c1:=λk kp=>Jf (lv:=lv) (k:=k) (kp:=kp) (H:=H++[.cells (a.map iv) 86,.cells (b.map iv) 86]) (xs:=a.take 4) (ys:=b.take 4) (ia:=H.length) (ib:=H.length+1) (oa:=0) (ob:=0) (pa:=[]) (pb:=[]) (ba H _ 0) (ba H _ 1) ea rfl eb rfl (by rw[Ga,Lx]) (by rw[Ga];exact SQ _);simp only[Ga,Lx]at c1;refine aL ((c1 _ _ ?_));(try simp only[seval]);refine bi ?_;rw[sw,if_neg (by simpa using h)]at hk;exact lh hH hk
 ·have h:=(by simpa using h:a.take 4=b.take 4);rw[sw,if_pos h]at hk;refine aO ?_;refine eM 4 ?_;simp only[seval];have c2:=λk kp=>Jf (lv:=lv) (k:=k) (kp:=kp) (H:=H++[.cells (a.map iv) 86,.cells (b.map iv) 86]) (xs:=(a.drop 4).take 4) (ys:=(b.drop 4).take 4) (ia:=H.length) (ib:=H.length+1) (oa:=4) (ob:=4) (pa:=(a.take 4).map iv) (pb:=(b.take 4).map iv) (ba H _ 0) (ba H _ 1) ea (by simp[ha]) eb (by simp[hb]) (by rw[Lv,Sz]) (by rw[Lv];exact SQ _);simp only[Lv,Sz]at c2;refine aL ((c2 _ _ ?_));(try simp only[seval]);refine am ?_;refine aF ?_;refine⟨λh2=> ?_,λh2=> ?_⟩
  ·refine am ?_;refine bi ?_;rw[if_pos (by simpa using h2)]at hk;exact lh hH hk
  ·refine aO ?_;rw[if_neg (by simpa using h2)]at hk;refine eM 4 ?_;simp only[seval];have c3:=λk kp=>Jf (lv:=lv) (k:=k) (kp:=kp) (H:=H++[.cells (a.map iv) 86,.cells (b.map iv) 86]) (xs:=a.drop 8) (ys:=b.drop 8) (ia:=H.length) (ib:=H.length+1) (oa:=8) (ob:=8) (pa:=(a.take 4).map iv++((a.drop 4).take 4).map iv) (pb:=(b.take 4).map iv++((b.drop 4).take 4).map iv) (ra:=[]) (rb:=[]) (ba H _ 0) (ba H _ 1) (by rw[ea];simp) (by simp[ha]) (by rw[eb];simp) (by simp[hb]) (by rw[Lw,aaa]) (by rw[Lw];omega);simp only[Lw,aaa]at c3;refine aL ((c3 _ _ ?_));(try simp only[seval]);refine bi ?_;exact lh hH hk
end
open Go.Conc Go.Proofs Go.Gg.Tk
theorem GN{α:Type}{g:α->AV}{ca pa ra:List AV}{xs:List α}{o i:Nat}{x:α}(hc:ca=pa++(xs.map g++ra))(ho:pa.length=o)(h:xs[i]?=some x):ca.drop (o+i)=g x::((xs.drop (i+1)).map g++ra):=by
 subst hc ho;rw[Vu,TW (by omega),Uy,show pa.length+i-pa.length=i by omega,Vu,zk h,show i-(xs.map g).length=0 by have:=eI h;simp;omega,Xy];rfl
theorem GO{α:Type}{g:α->AV}{ca pa ra:List AV}{xs:List α}{o i:Nat}{y:α}(hc:ca=pa++(xs.map g++ra))(ho:pa.length=o)(h:i<xs.length):ca.take (o+i)++[g y]++ca.drop (o+i+1)=pa++((xs.set i y).map g++ra):=by
 subst hc ho;have h1:(pa++(xs.map g++ra)).take (pa.length+i)=pa++(xs.map g).take i:=by
  rw[List.take_append,SP (by omega),show pa.length+i-pa.length=i by omega,Tw (by simp;omega)]
 have h2:(pa++(xs.map g++ra)).drop (pa.length+i+1)=(xs.map g).drop (i+1)++ra:=by
  rw[Vu,TW (by omega),Uy,show pa.length+i+1-pa.length=i+1 by omega,Wn (by simp;omega)]
 rw[h1,h2,<- Np h];simp[SC]
namespace Tk
def Kn.l (F:Kn)(mp:Nat):List AV:=bv F.has:: .mp mp::(F.aB.map (λn=>wv n)++(F.hours.map (λn=>wv n)++(F.less.map (λn=>wv n)++(F.aV.map (λn=>wv n)++F.first.map iv))))
structure bJ (F:Kn):Prop where
 aB:F.aB.length=4
 hours:F.hours.length=4
 less:F.less.length=4
 aV:F.aV.length=3
 first:F.first.length=11
 mc:∀n∈F.aB,n<65536
 mz:∀n∈F.hours,n<65536
 mG:∀n∈F.less,n<65536
 lK:∀n∈F.aV,n<65536
 h4:∀h∈F.aK,h.length=4
theorem Kn.len{F:Kn}(h:bJ F)(mp:Nat):(F.l mp).length=28:=by simp[Kn.l,h.aB,h.hours,h.less,h.aV,h.first]
theorem Kn.GU{F:Kn}{mp p n:Nat}(h:F.aB[p]?=some n):(F.l mp).drop (2+p)=wv n::((F.aB.drop (p+1)).map (λn=>wv n)++(F.hours.map (λn=>wv n)++(F.less.map (λn=>wv n)++(F.aV.map (λn=>wv n)++F.first.map iv)))):=GN (pa:=[bv F.has,.mp mp]) rfl rfl h
theorem Kn.abl{F:Kn}{mp p v:Nat}(h:p<F.aB.length):(F.l mp).take (2+p)++[wv v]++(F.l mp).drop (2+p+1)=({F with aB:=F.aB.set p v}:Kn).l mp:=GO (g:=λn=>wv n) (pa:=[bv F.has,.mp mp]) rfl rfl h
theorem Kn.K8{F:Kn}(k:bJ F){mp p n:Nat}(h:F.hours[p]?=some n):(F.l mp).drop (6+p)=wv n::((F.hours.drop (p+1)).map (λn=>wv n)++(F.less.map (λn=>wv n)++(F.aV.map (λn=>wv n)++F.first.map iv))):=GN (pa:=bv F.has:: .mp mp::F.aB.map (λn=>wv n)) rfl (by simp[k.aB]) h
theorem Kn.Sd{F:Kn}(k:bJ F){mp p v:Nat}(h:p<F.hours.length):(F.l mp).take (6+p)++[wv v]++(F.l mp).drop (6+p+1)=({F with hours:=F.hours.set p v}:Kn).l mp:=GO (g:=λn=>wv n) (pa:=bv F.has:: .mp mp::F.aB.map (λn=>wv n)) rfl (by simp[k.aB]) h
theorem Kn.Ml{F:Kn}(k:bJ F){mp p n:Nat}(h:F.less[p]?=some n):(F.l mp).drop (10+p)=wv n::((F.less.drop (p+1)).map (λn=>wv n)++(F.aV.map (λn=>wv n)++F.first.map iv)):=GN (pa:=bv F.has:: .mp mp::(F.aB.map (λn=>wv n)++F.hours.map (λn=>wv n))) (by simp[Kn.l]) (by simp[k.aB,k.hours]) h
theorem Kn.aaH{F:Kn}(k:bJ F){mp p v:Nat}(h:p<F.less.length):(F.l mp).take (10+p)++[wv v]++(F.l mp).drop (10+p+1)=({F with less:=F.less.set p v}:Kn).l mp:=by
 have:=GO (g:=λn=>wv n) (ca:=F.l mp) (y:=v) (pa:=bv F.has:: .mp mp::(F.aB.map (λn=>wv n)++F.hours.map (λn=>wv n))) (ra:=F.aV.map (λn=>wv n)++F.first.map iv) (by simp[Kn.l]) (show _=10 by simp[k.aB,k.hours]) h;rw[this];simp[Kn.l]
theorem Kn.Dt{F:Kn}(k:bJ F){mp p n:Nat}(h:F.aV[p]?=some n):(F.l mp).drop (14+p)=wv n::((F.aV.drop (p+1)).map (λn=>wv n)++F.first.map iv):=GN (pa:=bv F.has:: .mp mp::(F.aB.map (λn=>wv n)++(F.hours.map (λn=>wv n)++F.less.map (λn=>wv n)))) (by simp[Kn.l]) (by simp[k.aB,k.hours,k.less]) h
theorem Kn.abE{F:Kn}(k:bJ F){mp p v:Nat}(h:p<F.aV.length):(F.l mp).take (14+p)++[wv v]++(F.l mp).drop (14+p+1)=({F with aV:=F.aV.set p v}:Kn).l mp:=by
 have:=GO (g:=λn=>wv n) (ca:=F.l mp) (y:=v) (pa:=bv F.has:: .mp mp::(F.aB.map (λn=>wv n)++(F.hours.map (λn=>wv n)++F.less.map (λn=>wv n)))) (ra:=F.first.map iv) (by simp[Kn.l]) (show _=14 by simp[k.aB,k.hours,k.less]) h;rw[this];simp[Kn.l]
theorem Kn.B1{F:Kn}{mp:Nat}:(F.l mp)[0]?=some (bv F.has):=rfl
theorem Kn.agL{F:Kn}{mp:Nat}:(F.l mp).drop 1=.mp mp::(F.aB.map (λn=>wv n)++(F.hours.map (λn=>wv n)++(F.less.map (λn=>wv n)++(F.aV.map (λn=>wv n)++F.first.map iv)))):=rfl
theorem Kn.ap3{F:Kn}{mp:Nat}:(F.l mp).take 0++[bv true]++(F.l mp).drop (0+1)=({F with has:=true}:Kn).l mp:=rfl
theorem Kn.aci{F:Kn}(k:bJ F){mp:Nat}{t:List Int}(ht:t.length=11):(F.l mp).take 17++t.map iv++(F.l mp).drop (17+11)=({F with first:=t}:Kn).l mp:=by
 have e:F.l mp=(bv F.has:: .mp mp::(F.aB.map (λn=>wv n)++(F.hours.map (λn=>wv n)++(F.less.map (λn=>wv n)++F.aV.map (λn=>wv n)))))++F.first.map iv:=by simp[Kn.l]
 have hl:(bv F.has::AV.mp mp::(F.aB.map (λn=>wv n)++(F.hours.map (λn=>wv n)++(F.less.map (λn=>wv n)++F.aV.map (λn=>wv n))))).length=17:=by simp[k.aB,k.hours,k.less,k.aV]
 rw[TW (by rw[Kn.len k];omega),e,Tw (by omega),SP (by omega),SN];simp[Kn.l]
structure jj (x:ak)(t:List Int):Prop where
 len:t.length=11
 bz:mm (t.take 4)
 num:∀p,p<x.pieces.length->∃n:Nat,t[4+p]?=some (n:Int)/\n<9/\0<=je (t.take 4) (n+t.getD 0 0)
 own:∀s,s<x.aC.length->∃o:Nat,t[8+s]?=some (o:Int)/\o<4
end Tk
def setH (hs:List (List Int)):aa:=.obj (.map (hs.zipIdx.map ek).toArray hs.length)
theorem qy{H:List aa}{i:Nat}{x:aa}(h:H[i]?=some x):H.set i x=H:=by
 apply Yo;intro j;rw[UM];split
 ·rename_i e;subst e;rw[if_pos (eI h)];exact h.symm
 ·rfl
theorem u6{H L:List aa}{i:Nat}{x:aa}(h:i<H.length):(H++L).set i x=H.set i x++L:=US _ _ h
section
variable {lv:Bool}{H:List aa}{k kp:AV->List aa->Prop}
theorem OX{F:Kn}{t:List Int}(h:bJ F)(ht:t.length=11):bJ (jD F t):=by
 unfold jD;split
 ·exact h
 ·exact⟨h.aB,h.hours,h.less,h.aV,ht,h.mc,h.mz,h.mG,h.lK,h.h4⟩
theorem Db{l:List Nat}{i v:Nat}(h:∀n∈l,n<65536)(hv:v<65536):∀n∈l.set i v,n<65536:=λn hn=>by
 rcases Up hn with h'|rfl
 ·exact h n h'
 ·exact hv
theorem Tk.bJ.pA{G:Kn}(h:bJ G){i v:Nat}(hv:v<65536):bJ {G with aV:=G.aV.set i v}:=⟨h.aB,h.hours,h.less,by simp[h.aV],h.first,h.mc,h.mz,h.mG,Db h.lK hv,h.h4⟩
theorem Tk.bJ.acn{G:Kn}(h:bJ G){i v:Nat}(hv:v<65536):bJ {G with aB:=G.aB.set i v}:=⟨by simp[h.aB],h.hours,h.less,h.aV,h.first,Db h.mc hv,h.mz,h.mG,h.lK,h.h4⟩
theorem Tk.bJ.acl{G:Kn}(h:bJ G){i v:Nat}(hv:v<65536):bJ {G with hours:=G.hours.set i v}:=⟨h.aB,by simp[h.hours],h.less,h.aV,h.first,h.mc,Db h.mz hv,h.mG,h.lK,h.h4⟩
theorem Tk.bJ.acm{G:Kn}(h:bJ G){i v:Nat}(hv:v<65536):bJ {G with less:=G.less.set i v}:=⟨h.aB,h.hours,by simp[h.less],h.aV,h.first,h.mc,h.mz,Db h.mG hv,h.lK,h.h4⟩
theorem Ep{l:List Nat}{i n v:Nat}(h:l[i]?=some n):oL l i v=l.set i (n|||2^v):=by
 unfold oL;rw[SE,h];rfl
theorem ack(hs:List (List Int)):setH hs=.obj (.map (hs.zipIdx.map ek).toArray hs.length):=rfl
theorem acj(hs:List (List Int))(h:List Int):setH (hs++[h])=.obj (.map ((hs.zipIdx++[(h,hs.length)]).map ek).toArray (hs.length+1)):=by
 rw[ack,List.zipIdx_append,S4];simp
theorem D3{α:Type}{l:List α}{y:α×Nat}(h:y∈l.zipIdx):y.1∈l:=by
 obtain⟨a,b⟩:=y;have:=List.mem_zipIdx h;simp at this;rw[this.2];exact Wr _
theorem Ju{x:List Int}{hs:List (List Int)}:(pN x hs.zipIdx 0=none/\x∉hs)\/(∃i b,pN x hs.zipIdx 0=some (i,.bool true)/\hs.zipIdx[i]?=some (x,b)/\x∈hs):=by
 cases h:pN x hs.zipIdx 0 with
 |none=>
  refine .inl ⟨rfl,λhm=> ?_⟩;obtain⟨i,hi⟩:=UQ.1 hm;have:(x,i)∈hs.zipIdx:=UQ.2 ⟨i,by rw[List.getElem?_zipIdx,hi];simp⟩;exact P8 h _ this rfl
 |some p=>
  obtain⟨i,v⟩:=p;obtain⟨b,_,h2,rfl⟩:=P9 h;rw[ZV]at h2;exact .inr ⟨i,b,rfl,h2,D3 (y:=(x,b)) (Tc h2)⟩
theorem F.i3:∃i,SA.info? 3=some i/\i.size=1:=by
 obtain⟨i,h1,h2⟩:=Tp.1 F.i3s;exact⟨i,h1,h2⟩
theorem uZ{H L:List aa}{i:Nat}{z:aa}(h:i<H.length):(H.set i z++L)[i]?=some z:=by
 rw[SX (by simpa using h),UM,if_pos rfl,if_pos h]
theorem u5{H L:List aa}{i:Nat}{z y:aa}(h:i<H.length):(H.set i z++L).set i y=H.set i y++L:=by
 rw[u6 (by simpa using h),W6]
theorem aip{x:ak}{t:List Int}{deep:Int}{fp mp:Nat}{Q:Kn}(hx:x.Ok)(ht:jj x t)(hQ:bJ Q)(lX:fp≠mp)(hf:H[fp]?=some (.cells (Q.l mp) 88))(hm:H[mp]?=some (setH Q.aK))(hk:k (.aN []) ((H.set fp (.cells ((ey x deep Q t).l mp) 88)).set mp (setH (ey x deep Q t).aK))):bm lv SA 99 H [.op fp 0,x.av,.agg (t.map iv),iv deep] k kp:=by
 refine bG (rs:=[]) (nt:=135) Tryz.f99 λhH hA=> ?_;simp only[br,SW,ak.av];have jS:=ht.len;have JK:(t.map iv).length=11:=by rw[Tn,jS]
 have lW:=eI hf;have Cx:=eI hm;have RL:=Kn.len hQ mp;have bM:x.l=[iv x.first,iv x.hours,iv x.an,dC x.seen,aT x.pieces,aT x.aC]:=rfl;have dt:∀(L:List aa) i,(H++L)[H.length+i]?=L[i]?:=λL i=>ba H L i;obtain⟨R1,pQ⟩:∃R1,R1=jD Q t:=⟨_,rfl⟩;have nc:bJ R1:=by rw[pQ];exact OX hQ jS
 have Ca:R1.aK=Q.aK:=by rw[pQ];unfold jD;split<;>rfl
 obtain⟨H1,lm⟩:∃H1,H1=H.set fp (.cells (R1.l mp) 88):=⟨_,rfl⟩;have cS:H1.length=H.length:=by rw[lm,TC]
 have xq:H1[fp]?=some (.cells (R1.l mp) 88):=by rw[lm,UM,if_pos rfl,if_pos lW]
 have Fb:H1[mp]?=some (setH R1.aK):=by rw[lm,T8 lX,Ca];exact hm
 have akD:∀G:Kn,∀hs:List (List Int),bH ((H1.set fp (.cells (G.l mp) 88)).set mp (setH hs)):=λG hs=>by
  have hl:((H1.set fp (.cells (G.l mp) 88)).set mp (setH hs)).length=H.length:=by rw[TC,TC,cS]
  intro z hz;rw[hl];rcases Up hz with hz|rfl
  ·rcases Up hz with hz|rfl
   ·rw[lm]at hz;rcases Up hz with hz|rfl
    ·exact hH z hz
    ·intro a ha;simp only[Kn.l,SK,SS,Tl]at ha;rcases ha with rfl|rfl|⟨_,_,rfl⟩|⟨_,_,rfl⟩|⟨_,_,rfl⟩|⟨_,_,rfl⟩|⟨_,_,rfl⟩
     ·exact .val _
     ·exact .mp (by omega)
     all_goals exact .val _
   ·intro a ha;simp only[Kn.l,SK,SS,Tl]at ha;rcases ha with rfl|rfl|⟨_,_,rfl⟩|⟨_,_,rfl⟩|⟨_,_,rfl⟩|⟨_,_,rfl⟩|⟨_,_,rfl⟩
    ·exact .val _
    ·exact .mp (by omega)
    all_goals exact .val _
  ·trivial
 have iz:k (.aN []) ((H1.set fp (.cells ((ey x deep Q t).l mp) 88)).set mp (setH (ey x deep Q t).aK)):=by rw[lm,W6];exact hk
 have dV:∀(G:Kn)(hs:List (List Int))(L:List aa),ey x deep Q t=G->G.aK=hs->cC H1.length ((H1.set fp (.cells (G.l mp) 88)).set mp (setH hs)++L) (.aN []) k:=λG hs L hG iK=>by
  subst hG iK;exact jH (Wk.refl _) rfl (by rw[TC,TC,cS];exact SQ _) (akD _ _) (by simp[jx]) iz
 have aG:ey x deep Q t=(if deep=2 then{R1 with aV:=mI t x.aC.length R1.aV}else if deep=0 then{R1 with aK:=jy R1.aK (t.take 4)}else{R1 with aB:=rN t x.pieces.length R1.aB,hours:=v8 t x.pieces.length R1.hours,less:=yg t x.pieces.length x.pieces.length R1.less}):=by rw[pQ];rfl
 rw[aG]at dV;clear hk iz aG;refine am ?_;refine aj ?_;simp only[seval,fH hf,Kn.B1];refine aF ?_;refine⟨λhc=> ?ga,λhc=> ?gb⟩
 case' ga=>
  have e1:R1={Q with has:=true,first:=t}:=by rw[pQ];unfold jD;rw[hc];rfl
  have eH:∀L:List aa,(H++L).set fp (.cells (({Q with has:=true}:Kn).l mp) 88)=H.set fp (.cells (({Q with has:=true}:Kn).l mp) 88)++L:=λL=>u6 lW;have Fo:bJ {Q with has:=true}:=⟨hQ.aB,hQ.hours,hQ.less,hQ.aV,hQ.first,hQ.mc,hQ.mz,hQ.mG,hQ.lK,hQ.h4⟩;have akj:=Kn.len Fo mp;have Hm:=Kn.aci Fo (mp:=mp) (t:=t) jS;have Ag:TH 11 (t.map iv)=t.map iv:=SP (by omega);have aj4:∀(z:aa)(L:List aa),(H.set fp z++L)[H.length+1]?=L[1]?:=λz L=>by have:=ba (H.set fp z) L 1;rwa [TC]at this
  refine nU [5,8] (SV 9) (λD=>bif isDone 8 D then H1++[.cells x.l 76,.cells (t.map iv) 86]else bif isDone 5 D then H.set fp (.cells (({Q with has:=true}:Kn).l mp) 88)++[.cells x.l 76,.cells (t.map iv) 86]else H++[.cells x.l 76,.cells (t.map iv) 86]) ?_;simp only[seval,fH hf,uZ lW,u5 lW,u6 lW,RL,akj,jS,JK,Ag,aj4];have eL:(AV.val (.bool true)::(TH 16 (TR 1 (Q.l mp))++t.map iv++TR 27 (TR 1 (Q.l mp))))=R1.l mp:=by rw[e1];exact Hm
  refine⟨by rfl,by rw[Ul,RL];omega,by rw[eL,lm],?_⟩;rw[eL,<- lm,<- cS]
 case' gb=>
  have e1:R1=Q:=by rw[pQ];unfold jD;rw[hc];rfl
  have I6:H1=H:=by rw[lm,e1];exact qy hf
  refine aO ?_;rw[<- I6]
 all_goals
  clear hc e1;have lx:fp<H1.length:=by omega
  have a_:∀(L:List aa),(H1++L)[H1.length]?=L[0]?:=λL=>ba H1 L 0;have bY:∀(L:List aa),(H1++L)[H1.length+1]?=L[1]?:=λL=>ba H1 L 1;have cx:∀(z:aa)(L:List aa),(H1.set fp z++L)[H1.length]?=L[0]?:=λz L=>by have:=ba (H1.set fp z) L 0;rwa [TC]at this
  have dE:∀(z:aa)(L:List aa),(H1.set fp z++L)[H1.length+1]?=L[1]?:=λz L=>by have:=ba (H1.set fp z) L 1;rwa [TC]at this
  have F7:∀G:Kn,G.aK=R1.aK->(H1.set fp (.cells (G.l mp) 88)).set mp (setH R1.aK)=H1.set fp (.cells (G.l mp) 88):=λG _=>qy (by rw[T8 lX];exact Fb);refine am ?_;refine am ?_;refine aF ?_;refine⟨λh2=> ?_,λh2=> ?_⟩
  ·
   replace h2:deep=2:=(by simpa using h2);have xU:=hx.di;rw[if_pos h2]at dV;refine aj ?_;simp only[seval,a_,bM,aT];refine cP ?_;refine iu x.aC.length (λi:Nat=>[(30,iv i)]) (λi=>H1.set fp (.cells (({R1 with aV:=mI t i R1.aV}:Kn).l mp) 88)++[.cells x.l 76,.cells (t.map iv) 86]) (λi=>bJ {R1 with aV:=mI t i R1.aV}) (λ_ _=>rfl) (by simp only[seval];simp[bC,Wk.refl]) (by rw[show ({R1 with aV:=mI t 0 R1.aV}:Kn)=R1 from rfl,qy xq];rfl) (λ_ _ _=>by simp) nc (λcq dG i cR ay R hR=> ?_);refine am ?_;refine aF ?_;refine⟨λh3=> ?_,λh3=> ?_⟩
   ·have bF:i<x.aC.length:=(by omega);obtain⟨o,ho,ho4⟩:=ht.own i bF;have qk:rU t i=o:=(by unfold rU;rw[SE,ho];rfl);obtain⟨n,hn⟩:=cj (xs:=mI t i R1.aV) (i:=i) (by have:=ay.aV;simp only at this;omega);have Cz:n<65536:=ay.lK n (Tc hn);have b3:(0<=(i:Int)/\(i:Int)<3)=True:=(by simp;omega);have bP:SD.wrap ((i:Int)+1)=((i+1:Nat):Int):=(by rw[bB _ (by omega)];rfl);have z8:=Kn.Dt ay (mp:=mp) (p:=i) (n:=n) hn;have o6:=Kn.abE ay (mp:=mp) (p:=i) (v:=n|||2^o) (eI hn);have da:=Kn.len ay mp;refine aO ?_;refine am ?_;refine eM 15 ?_;simp only[seval,dE,uZ lx,u5 lx,b3,z8,kG ho];refine ik (wv (n|||2^o)) (c9 (ue Cz (show o<16 by omega) ⟨rfl,rfl⟩)) ?_;(try simp only[seval,uZ lx,u5 lx,b3,da]);refine⟨by omega,?_⟩;rw[o6];refine aj ?_;simp only[seval,bP];have c_:mI t (i+1) R1.aV=(mI t i R1.aV).set i (n|||2^o):=(by rw[mI,qk,Ep hn]);refine hR _ ⟨bF,?_,?_⟩
    ·rw[c_];exact ay.pA (pw Cz (wG (by omega)))
    ·rw[c_];exact dF
   ·have du:i=x.aC.length:=(by omega);subst du;have:=dV _ R1.aK [.cells x.l 76,.cells (t.map iv) 86] rfl rfl;rw[F7 {R1 with aV:=mI t x.aC.length R1.aV} rfl]at this;refine cp ?_;refine bi ?_;exact this
  ·replace h2:¬deep=2:=(by simpa using h2);rw[if_neg h2]at dV;refine am ?_;refine aF ?_;refine⟨λh3=> ?_,λh3=> ?_⟩
   ·
    replace h3:deep=0:=(by simpa using h3);rw[if_pos h3]at dV;have CP:(t.take 4).length=4:=(by simp[jS]);have sV:∀L:List aa,(H1++L)[mp]?=some (.obj (.map (R1.aK.zipIdx.map ek).toArray R1.aK.length)):=λL=>fH Fb;have hfp:∀L:List aa,(H1++L)[fp]?=some (.cells (R1.l mp) 88):=λL=>fH xq;have R3:mp<H1.length:=(by omega);obtain⟨i3,pZ,pc⟩:=F.i3;have JL:∀y∈R1.aK.zipIdx,y.1.length=4:=λy hy=>nc.h4 _ (D3 hy);have FE:=acX (ts:=R1.aK.zipIdx) F.DW F.u3 pZ pc CP JL;have Fz:=λb=>acT (b:=b) (k:=.i64) (d:=9998) F.DW F.u3 pZ pc CP;refine eM 6 ?_;simp only[seval,hfp,bY,sV,Kn.agL,jS,JK];rw[<- VU];refine dX (yr _) (dX rfl ⟨Fz _,_,FE,?_,?_⟩)
    ·intro i v oY;rcases Ju (x:=t.take 4) (hs:=R1.aK)with⟨h,_⟩|⟨i',b,h,h2,_⟩
     ·rw[h]at oY;cases oY
     ·rw[h]at oY;cases oY;rw[Tm,h2];exact apI _
    ·rcases Ju (x:=t.take 4) (hs:=R1.aK)with⟨h,hn⟩|⟨i',b,h,h2,hn⟩
     ·rw[h,abM,u6 R3];have:=dV _ _ [.cells x.l 76,.cells (t.map iv) 86] rfl rfl;rw[show jy R1.aK (t.take 4)=R1.aK++[t.take 4] by rw[jy,if_neg hn],acj]at this;rw[show H1.set fp (.cells (({R1 with aK:=R1.aK++[t.take 4]}:Kn).l mp) 88)=H1 from qy xq]at this;refine bi ?_;exact this
     ·rw[h,aoo h2,u6 R3];have:=dV _ _ [.cells x.l 76,.cells (t.map iv) 86] rfl rfl;rw[show jy R1.aK (t.take 4)=R1.aK by rw[jy,if_pos hn],ack]at this;rw[show H1.set fp (.cells (({R1 with aK:=R1.aK}:Kn).l mp) 88)=H1 from qy xq]at this;refine bi ?_;exact this
   ·
    replace h3:¬deep=0:=(by simpa using h3);rw[if_neg h3]at dV;refine aO ?_;have lz:=hx.dY;obtain⟨P,hP⟩:∃P:Nat->Kn,∀p,P p={R1 with aB:=rN t p R1.aB,hours:=v8 t p R1.hours,less:=yg t x.pieces.length p R1.less}:=⟨_,λ_=>rfl⟩;obtain⟨P',Fl⟩:∃P':Nat->Nat->Kn,∀p q,P' p q={R1 with aB:=rN t (p+1) R1.aB,hours:=v8 t (p+1) R1.hours,less:=wm t p q (yg t x.pieces.length p R1.less)}:=⟨_,λ_ _=>rfl⟩;have QO:P 0=R1:=(by rw[hP];rfl);have hPs:∀p,P' p x.pieces.length=P (p+1):=λp=>(by rw[hP,Fl];rfl);refine aj ?_;simp only[seval,a_,bM,aT];refine cP ?_;refine iu x.pieces.length (λi:Nat=>[(62,iv i)]) (λi=>H1.set fp (.cells ((P i).l mp) 88)++[.cells x.l 76,.cells (t.map iv) 86]) (λi=>bJ (P i)) (λ_ _=>rfl) (by simp only[seval];simp[bC,Wk.refl]) (by rw[QO,qy xq];rfl) (λ_ _ _=>by simp) (by rw[QO];exact nc) (λcq dG p cR ay R hR=> ?_);refine am ?_;refine aF ?_;refine⟨λh=> ?_,λh=> ?_⟩
    ·have da:p<x.pieces.length:=(by omega);obtain⟨o,ho,ho9,qk⟩:=ht.num p da;obtain⟨n,hn⟩:=cj (xs:=(P p).aB) (i:=p) (by have:=ay.aB;omega);obtain⟨m,fM⟩:=cj (xs:=(P p).hours) (i:=p) (by have:=ay.hours;omega);have Cz:n<65536:=ay.mc n (Tc hn);have RS:m<65536:=ay.mz m (Tc fM);have b4:(0<=(p:Int)/\(p:Int)<4)=True:=(by simp;omega);have bP:SD.wrap ((p:Int)+1)=((p+1:Nat):Int):=(by rw[bB _ (by omega)];rfl);have z8:=Kn.GU (mp:=mp) hn;have o6:=Kn.abl (mp:=mp) (p:=p) (v:=n|||2^o) (eI hn);have F1:=Kn.len ay mp;have lF:mh t p=o:=(by unfold mh;rw[SE,ho];rfl);refine aO ?_;refine am ?_;refine eM 15 ?_;simp only[seval,dE,uZ lx,u5 lx,b4,z8,kG ho];refine ik (wv (n|||2^o)) (c9 (ue Cz (show o<16 by omega) ⟨rfl,rfl⟩)) ?_;(try simp only[seval,uZ lx,u5 lx,b4,F1]);refine⟨by omega,?_⟩;rw[o6];obtain⟨c0,xD⟩:=cj (xs:=t) (i:=0) (by omega);have Fx:t.getD 0 0=c0:=(by rw[SE,xD];rfl);rw[Fx]at qk;have Rb:c0∈t.take 4:=by
      match t,jS,xD with
      |a::t',_,xD=>cases xD;simp
     have o0:=ht.bz.lo c0 Rb;have FH:=ht.bz.hi c0 Rb;have gF:SD.wrap ((o:Int)+c0)=(o:Int)+c0:=bB _ (by omega);have ajC:(t.map iv)[0]?=some (iv c0):=(by rw[Tm,xD];rfl);obtain⟨u,hu⟩:=Int.eq_ofNat_of_zero_le qk;have hu4:u<4:=by
      have h5:je (t.take 4) ((o:Int)+c0)<0+(t.take 4).length:=adc;rw[ht.bz.len,hu]at h5;omega
     have hth:DM t p=u:=by
      unfold DM;rw[SE,ho,Fx];simp only[S7];rw[hu];rfl
     obtain⟨G1,xu⟩:∃G1,G1=({P p with aB:=(P p).aB.set p (n|||2^o)}:Kn):=⟨_,rfl⟩;have B8:bJ G1:=(by rw[xu];exact ay.acn (pw Cz (wG (by omega))));have KU:G1.hours[p]?=some m:=(by rw[xu];exact fM);rw[<- xu];have Sk:=Kn.K8 B8 (mp:=mp) KU;have Sm:=Kn.Sd B8 (mp:=mp) (p:=p) (v:=m|||2^u) (eI KU);have Sl:=Kn.len B8 mp;refine eM 22 ?_;simp only[seval,dE,uZ lx,u5 lx,b4,Sk,kG ho,JK,jS,gF];rw[<- VU];refine dX ajC ?_;(try simp only[seval,gF]);refine ik (iv u) (c9 (P6 (h:=t.take 4) (n:=(o:Int)+c0) ht.bz.len ⟨by rw[hu],rfl⟩)) ?_;refine ik (wv (m|||2^u)) (c9 (ue RS (show u<16 by omega) ⟨rfl,rfl⟩)) ?_;(try simp only[seval,uZ lx,u5 lx,b4,Sl]);refine⟨by omega,?_⟩;rw[Sm];have JZ:({G1 with hours:=G1.hours.set p (m|||2^u)}:Kn)=P' p 0:=by
      rw[xu,Fl];simp only[hP]at hn fM⊢;rw[rN,lF,Ep hn,v8,hth,Ep fM];rfl
     have ajp:bJ (P' p 0):=(by rw[<- JZ];exact B8.acl (pw RS (wG (by omega))));rw[JZ];clear o6 z8 F1 B8 KU Sk Sm Sl JZ xu hn fM ay;refine aj ?_;simp only[seval,cx,bM,aT];refine cP ?_;refine iu x.pieces.length (λi:Nat=>[(108,iv i)]) (λi=>H1.set fp (.cells ((P' p i).l mp) 88)++[.cells x.l 76,.cells (t.map iv) 86]) (λi=>bJ (P' p i)) (λ_ _=>rfl) (by simp only[seval];simp[bC,Wk.refl]) rfl (λ_ _ _=>by simp) ajp (λQL atb q z_ nv R' QQ=> ?_);refine am ?_;refine aF ?_;refine⟨λh=> ?_,λh=> ?_⟩
     ·have l5:q<x.pieces.length:=(by omega);obtain⟨o2,R9,atm,_⟩:=ht.num q l5;have b4q:(0<=(q:Int)/\(q:Int)<4)=True:=(by simp;omega);have wa:SD.wrap ((q:Int)+1)=((q+1:Nat):Int):=(by rw[bB _ (by omega)];rfl);have c_:P' p (q+1)={P' p q with less:=if o<o2 then oL (P' p q).less p q else(P' p q).less}:=by
       rw[Fl,Fl,wm];simp only[SE,ho,R9,S7];by_cases hlt:o<o2
       ·rw[if_pos (by omega),if_pos hlt]
       ·rw[if_neg (by omega),if_neg hlt]
      refine aO ?_;refine am ?_;refine eM 8 ?_;simp only[seval,dE,b4,b4q,kG ho,kG R9];refine aF ?_;refine⟨λh=> ?_,λh=> ?_⟩
      ·have hlt:o<o2:=(by simpa using h);rw[if_pos hlt]at c_;obtain⟨v,hv⟩:=cj (xs:=(P' p q).less) (i:=p) (by have:=nv.less;omega);have Gd:v<65536:=nv.mG v (Tc hv);have akJ:=Kn.Ml nv (mp:=mp) hv;have akN:=Kn.aaH nv (mp:=mp) (p:=p) (v:=v|||2^q) (eI hv);have akM:=Kn.len nv mp;rw[Ep hv]at c_;refine eM 12 ?_;simp only[seval,uZ lx,u5 lx,b4,akJ];refine ik (wv (v|||2^q)) (c9 (ue Gd (show q<16 by omega) ⟨rfl,rfl⟩)) ?_;(try simp only[seval,uZ lx,u5 lx,b4,akM]);refine⟨by omega,?_⟩;rw[akN,<- c_];refine aj ?_;simp only[seval,wa];refine QQ _ ⟨l5,?_,?_⟩
       ·rw[c_];exact nv.acm (pw Gd (wG (by omega)))
       ·exact dF
      ·have hlt:¬o<o2:=(by simpa using h);rw[if_neg hlt]at c_;refine aO ?_;refine aj ?_;simp only[seval,wa];rw[show ({P' p q with less:=(P' p q).less}:Kn)=P' p q from rfl]at c_;refine QQ _ ⟨l5,?_,?_⟩
       ·rw[c_];exact nv
       ·rw[c_];exact dF
     ·have hqe:q=x.pieces.length:=(by omega);subst hqe;rw[hPs]at nv⊢;refine cp ?_;refine aj ?_;simp only[seval,bP];exact hR _ ⟨da,nv,dF⟩
    ·have ie:p=x.pieces.length:=(by omega);subst ie;have:=dV _ R1.aK [.cells x.l 76,.cells (t.map iv) 86] rfl rfl;rw[<- hP,F7 (P _) (by rw[hP])]at this;refine cp ?_;exact this
end
open Go.Conc Go.Proofs Go.Gg.Tk
namespace Tk
def gQ (F:Kn)(hs:List (List Int))(G:Kn):Kn:=if G.has then⟨true,hs.foldl jy F.aK,lJ F.aB G.aB,lJ F.hours G.hours,lJ F.less G.less,lJ F.aV G.aV,if F.has=false\/sw G.first F.first then G.first else F.first⟩else F
def nH (l m:List Nat):Nat->List Nat
 |0=>l
 |i+1=>(nH l m i).set i ((nH l m i).getD i 0|||m.getD i 0)
end Tk
theorem G5{l m:List Nat}{i a b:Nat}(ha:(nH l m i)[i]?=some a)(hb:m[i]?=some b):nH l m (i+1)=(nH l m i).set i (a|||b):=by
 rw[nH,SE,SE,ha,hb];rfl
theorem anH{l m:List Nat}(h:l.length=m.length){i:Nat}(hi:i<=l.length):nH l m i=lJ (l.take i) (m.take i)++l.drop i:=by
 induction i with
 |zero=>simp[nH,lJ]
 |succ i ih=>
  have hl:i<l.length:=by omega
  have hm:i<m.length:=by omega
  have e1:(lJ (l.take i) (m.take i)).length=i:=by simp[lJ];omega
  have e2:(nH l m i).getD i 0=l[i]:=by
   rw[ih (by omega),SE,S9 (by omega),e1];simp[hl]
  rw[nH,e2,ih (by omega),T_ _ _ (by omega),e1,Ve,SE,SY hm,S7,TQ hl,T1,VF,VF,SY hl,SY hm,YN,YN];unfold lJ;rw[List.zipWith_append (by simp;omega)];simp
theorem G4{l m:List Nat}(h:l.length=m.length){n:Nat}(hn:l.length=n):nH l m n=lJ l m:=by
 subst hn;rw[anH h (SQ _),h,TO,TW (by omega),SN,<- h,TO]
theorem ahs{lv:Bool}{H:List aa}{k kp:AV->List aa->Prop}{fp mp mg:Nat}{Q G:Kn}(hQ:bJ Q)(hG:bJ G)(lX:fp≠mp)(vX:mg≠mp)(hf:H[fp]?=some (.cells (Q.l mp) 88))(hm:H[mp]?=some (setH Q.aK))(hg:H[mg]?=some (setH G.aK))(v6:G.aK.Nodup)(hk:∀hs:List (List Int),hs.Perm G.aK->k (.aN []) ((H.set fp (.cells ((gQ Q hs G).l mp) 88)).set mp (setH (gQ Q hs G).aK))):bm lv SA 102 H [.op fp 0,.agg (G.l mg)] k kp:=by
 refine bG (rs:=[]) (nt:=121) Tryz.f102 λhH hA=> ?_;simp only[br,SW];have lW:=eI hf;have Cx:=eI hm;have kj:=eI hg;have FF:=Kn.len hG mg;have F4:=Kn.len hQ mp;have sR:(G.l mg).drop 17=G.first.map iv:=by
  have e:G.l mg=(bv G.has:: .mp mg::(G.aB.map (λn=>wv n)++(G.hours.map (λn=>wv n)++(G.less.map (λn=>wv n)++G.aV.map (λn=>wv n)))))++G.first.map iv:=by simp[Kn.l]
  rw[e,Wn (by simp[hG.aB,hG.hours,hG.less,hG.aV]),TW (by simp[hG.aB,hG.hours,hG.less,hG.aV])];rfl
 refine am ?_;refine aj ?_;simp only[seval,Kn.B1];refine aF ?_;refine⟨λh=> ?_,λh=> ?_⟩
 ·
  have KB:G.has=false:=by simpa using h
  have:=hk G.aK (ab_ _);rw[gQ,KB]at this;simp only[TM,if_false]at this;rw[qy hf,qy hm]at this;refine bi ?_;exact jm hH (Wk.refl _) (by simp[jx]) this
 ·have KB:G.has=true:=by simpa using h
  refine aO ?_;obtain⟨R1,pQ⟩:∃R1,R1=(if Q.has=false\/sw G.first Q.first=true then{Q with first:=G.first}else Q):=⟨_,rfl⟩;have nc:bJ R1:=by
   rw[pQ];split
   ·exact⟨hQ.aB,hQ.hours,hQ.less,hQ.aV,hG.first,hQ.mc,hQ.mz,hQ.mG,hQ.lK,hQ.h4⟩
   ·exact hQ
  have Ca:R1.aK=Q.aK:=by rw[pQ];split<;>rfl
  obtain⟨H1,lm⟩:∃H1,H1=H.set fp (.cells (R1.l mp) 88):=⟨_,rfl⟩;have a_:∀(L:List aa),(H++L)[H.length]?=L[0]?:=λL=>ba H L 0;have cx:∀(z:aa)(L:List aa),(H.set fp z++L)[H.length]?=L[0]?:=λz L=>by have:=ba (H.set fp z) L 0;rwa [TC]at this
  have jS:=hG.first;have Ag:TH 11 (G.first.map iv)=G.first.map iv:=SP (by rw[Tn];omega);have Hm:TH 17 (Q.l mp)++G.first.map iv++TR 28 (Q.l mp)=({Q with first:=G.first}:Kn).l mp:=Kn.aci hQ jS;have Sn:(Q.l mp).drop 17=Q.first.map iv:=by
   have e:Q.l mp=(bv Q.has:: .mp mp::(Q.aB.map (λn=>wv n)++(Q.hours.map (λn=>wv n)++(Q.less.map (λn=>wv n)++Q.aV.map (λn=>wv n)))))++Q.first.map iv:=(by simp[Kn.l]);rw[e,Wn (by simp[hQ.aB,hQ.hours,hQ.less,hQ.aV]),TW (by simp[hQ.aB,hQ.hours,hQ.less,hQ.aV])];rfl
  have aac:TH 11 (Q.first.map iv)=Q.first.map iv:=SP (by rw[Tn,hQ.first];exact SQ _);have cS:H1.length=H.length:=by rw[lm,TC]
  cases F3:Q.has
  case' true=>
   refine eM 12 ?_;simp only[seval,fH hf,Kn.B1,F3,a_,sR,Sn,FF,F4,Ag,aac];refine⟨by omega,by have:=hQ.first;omega,?_⟩;refine aL ((ahz hG.first hQ.first ?_));(try simp only[seval]);refine aF ?_;refine⟨λhb=> ?tt,λhb=> ?tf⟩
  case' false=>
   refine eM 12 ?_;simp only[seval,fH hf,Kn.B1,F3,a_,sR,Sn,FF,F4,Ag,aac];refine aF ?_
  case' tt=>
   have e1:R1={Q with first:=G.first}:=(by rw[pQ,if_pos (.inr hb)]);refine aj ?_;simp only[seval,fH hf,a_,sR,FF,F4,Ag,jS,u6 lW];rw[Hm,<- e1,<- lm,<- cS]
  case' tf=>
   have e1:R1=Q:=(by rw[pQ,if_neg (by rw[F3,hb];simp)]);have I6:H1=H:=(by rw[lm,e1];exact qy hf);refine aO ?_;rw[<- I6]
  case' false=>
   have e1:R1={Q with first:=G.first}:=(by rw[pQ,if_pos (.inl F3)]);refine aj ?_;simp only[seval,fH hf,a_,sR,FF,F4,Ag,jS,u6 lW];rw[Hm,<- e1,<- lm,<- cS]
  all_goals
   clear e1;have lx:fp<H1.length:=(by omega);have xq:H1[fp]?=some (.cells (R1.l mp) 88):=(by rw[lm,UM,if_pos rfl,if_pos lW]);have Fb:H1[mp]?=some (setH R1.aK):=(by rw[lm,T8 lX,Ca];exact hm);have Rq:fp≠mg:=λe=>(by subst e;rw[hf]at hg;cases hg);have h1g:H1[mg]?=some (setH G.aK):=(by rw[lm,T8 Rq];exact hg);obtain⟨R2,xw⟩:∃R2,R2=({R1 with has:=true}:Kn):=⟨_,rfl⟩;have eL:AV.val (.bool true)::TR 1 (R1.l mp)=R2.l mp:=(by rw[xw];rfl);have J4:R2.aK=Q.aK:=(by rw[xw];exact Ca);have ui:bJ R2:=(by rw[xw];exact⟨nc.aB,nc.hours,nc.less,nc.aV,nc.first,nc.mc,nc.mz,nc.mG,nc.lK,nc.h4⟩);refine aj ?_;simp only[seval,fH xq,u6 lx,Kn.ap3];refine⟨by have:=Kn.len nc mp;omega,?_⟩;rw[eL];obtain⟨B,hB⟩:∃B:Kn->List (List Int)->List aa,∀K hs,B K hs=(H1.set fp (.cells (K.l mp) 88)).set mp (setH hs):=⟨_,λ_ _=>rfl⟩;have fI:∀K hs,(B K hs).length=H1.length:=λK hs=>(by rw[hB,TC,TC]);have QF:∀K hs (L:List aa),(B K hs++L)[mp]?=some (.obj (.map (hs.zipIdx.map ek).toArray hs.length)):=λK hs L=>by
    rw[SX (by rw[fI];omega),hB,UM,if_pos rfl,if_pos (by rw[TC];omega)];rfl
   have Ff:∀K hs (L:List aa),(B K hs++L)[mg]?=some (.obj (.map (G.aK.zipIdx.map ek).toArray G.aK.length)):=λK hs L=>by
    rw[SX (by rw[fI];omega),hB,T8 (λe=>vX e.symm),T8 Rq,h1g];rfl
   have nZ:∀K hs (L:List aa),(B K hs++L)[fp]?=some (.cells (K.l mp) 88):=λK hs L=>by
    rw[SX (by rw[fI];omega),hB,T8 (λe=>lX e.symm),UM,if_pos rfl,if_pos (by omega)]
   have ajn:∀K hs o_ (L:List aa),(B K hs++L).set mp (setH o_)=B K o_++L:=λK hs o_ L=>by
    rw[US _ _ (by rw[fI];omega),hB,hB,W6]
   have Fg:∀K hs K' (L:List aa),(B K hs++L).set fp (.cells (K'.l mp) 88)=B K' hs++L:=λK hs K' L=>by
    rw[US _ _ (by rw[fI];omega),hB,hB,List.set_comm _ _ (λe=>lX e.symm),W6]
   have QH:H1.set fp (.cells (R2.l mp) 88)=B R2 R2.aK:=by
    rw[hB];symm;exact qy (by rw[T8 lX,Fb,J4,Ca])
   have a_:∀K hs (L:List aa),(B K hs++L)[H1.length]?=L[0]?:=λK hs L=>(by rw[<- fI K hs];exact ba _ L 0);have bY:∀K hs (L:List aa),(B K hs++L)[H1.length+1]?=L[1]?:=λK hs L=>(by rw[<- fI K hs];exact ba _ L 1);have jV:∀K hs (L:List aa),(B K hs++L)[H1.length+2]?=L[2]?:=λK hs L=>(by rw[<- fI K hs];exact ba _ L 2);have Ky:(G.l mg).drop 1=.mp mg::((G.l mg).drop 2):=rfl;have QN:∀K:Kn,(K.l mp).drop 1=.mp mp::((K.l mp).drop 2):=λ_=>rfl;have cD:∀(K:Kn)(hs:List (List Int)),bH (B K hs):=λK hs=>by
    intro z hz;rw[fI];rw[hB]at hz;rcases Up hz with hz|rfl
    ·rcases Up hz with hz|rfl
     ·rw[lm]at hz;rcases Up hz with hz|rfl
      ·exact cS▸hH z hz
      ·intro a ha;simp only[Kn.l,SK,SS,Tl]at ha;rcases ha with rfl|rfl|⟨_,_,rfl⟩|⟨_,_,rfl⟩|⟨_,_,rfl⟩|⟨_,_,rfl⟩|⟨_,_,rfl⟩
       ·exact .val _
       ·exact .mp (by omega)
       all_goals exact .val _
     ·intro a ha;simp only[Kn.l,SK,SS,Tl]at ha;rcases ha with rfl|rfl|⟨_,_,rfl⟩|⟨_,_,rfl⟩|⟨_,_,rfl⟩|⟨_,_,rfl⟩|⟨_,_,rfl⟩
      ·exact .val _
      ·exact .mp (by omega)
      all_goals exact .val _
    ·trivial
   have dV:∀(hs:List (List Int))(K:Kn)(L:List aa),hs.Perm G.aK->gQ Q hs G=K->cC H1.length (B K K.aK++L) (.aN []) k:=λhs K L hp hK=>by
    have:=hk hs hp;rw[hK]at this;subst hK;refine jH (Wk.refl _) rfl (by rw[fI];exact SQ _) (cD _ _) (by simp[jx]) ?_;rw[hB,lm,W6];exact this
   rw[QH];clear hk QH;refine aj ?_;simp only[seval,a_,Ky,Ff];rw[fI];have Q9:∀K hs (L:List aa) z,(B K hs++L).set (H1.length+1) z=B K hs++L.set 1 z:=λK hs L z=>by
    rw[T_ _ _ (by rw[fI];omega),fI,TU]
   have ajB:∀K hs (L:List aa) z,(B K hs++L).set (H1.length+2) z=B K hs++L.set 2 z:=λK hs L z=>by
    rw[T_ _ _ (by rw[fI];omega),fI,TU]
   obtain⟨ts,cM⟩:∃ts,ts=G.aK.zipIdx:=⟨_,rfl⟩;obtain⟨ck,FA⟩:∃ck,ck=G.aK.length:=⟨_,rfl⟩;rw[<- cM,<- FA]at Ff;rw[<- FA];have hb:∀y∈ts,y.2<ck:=λy hy=>(by rw[cM]at hy;have:=List.snd_lt_add_of_mem_zipIdx hy;omega);have CA:(ts.map (·.2)).Nodup:=(by rw[cM,show (λy:List Int×Nat=>y.2)=Prod.snd from rfl,List.zipIdx_map_snd];exact List.nodup_range');have h4:∀y∈ts,y.1.length=4:=λy hy=>(by rw[cM]at hy;exact hG.h4 _ (D3 hy));have fx:=O4 ts ck hb;have Lz:ts.map (·.1)=G.aK:=(by rw[cM,show (λy:List Int×Nat=>y.1)=Prod.fst from rfl,List.zipIdx_map_fst]);clear cM;obtain⟨ac,Fs⟩:∃ac:List (List Int×Nat)->List (List Int),∀vs,ac vs=vs.foldl (λa y=>jy a y.1) R2.aK:=⟨_,λ_=>rfl⟩;have Q2:ac []=R2.aK:=(by rw[Fs];rfl);have J5:∀vs y,ac (vs++[y])=jy (ac vs) y.1:=λvs y=>(by rw[Fs,Fs,ZL];rfl);obtain⟨i3,pZ,pc⟩:=F.i3;refine cP ?_;refine y8 (measure λvs:List (List Int×Nat)=>ts.length-vs.length).wf (λvs=>[]) (λvs=>B R2 (ac vs)++[.cells (G.l mg) 88,.iter mg ck (vs.map (·.2)).toArray ck]) (λvs=>(vs.map (·.2)).Nodup/\(∀y∈vs,y∈ts)/\∀h∈ac vs,h.length=4) [] (λ_ _=>rfl) (by simp) (by rw[Q2];rfl) (λ_ _=>by simp[fI]) ⟨by simp,by simp,by rw[Q2,J4];exact hQ.h4⟩ (λcq dG vs ay R hR=> ?_);refine aj ?_;simp only[seval,bY,Ff,Q9];refine⟨fx.elim .inl (λh=> .inr (.inl h)),λe he hn=> ?_,λhs=> ?_⟩
   ·obtain⟨y,hy,rfl⟩:∃y∈ts,ek y=e:=(by simpa using he);refine aF ?_;refine aO ?_;refine cP ?_;have sG:=h4 y hy;have Kd:(ek y).born=y.2:=rfl;have hlen:(y.1.map iv).length=4:=(by simp[sG]);have Km:TR 4 [AV.val (SF SD 0),AV.val (SF SD 0),AV.val (SF SD 0),AV.val (SF SD 0)]=[]:=rfl;refine aj ?_;simp only[seval,bY,Ff,Q9,ajB,jV,fI,Array.back?_push,Kd,Qa CA hy,abn,sG,hlen,Km];refine eM 10 ?_;simp only[seval,nZ,QN,QF,jV,hlen,sG];have aab:TH 4 (y.1.map iv)=y.1.map iv:=SP (by omega);have JL:∀z∈(ac vs).zipIdx,z.1.length=4:=λz hz=>ay.2.2 _ (D3 hz);have FE:=acX (ts:=(ac vs).zipIdx) F.DW F.u3 pZ pc sG JL;have Fz:=λb=>acT (b:=b) (k:=.i64) (d:=9998) F.DW F.u3 pZ pc sG;have F2:((vs.map (·.2)).toArray.push y.2)=((vs++[y]).map (·.2)).toArray:=(by simp);have LH:y.2∉vs.map (·.2):=(by simpa[ek]using hn);have sX:((vs++[y]).map (·.2)).Nodup/\(∀z∈vs++[y],z∈ts)/\∀h∈ac (vs++[y]),h.length=4:=by
     refine⟨?_,λz hz=> ?_,λh hh=> ?_⟩
     ·rw[TE,U7];refine⟨ay.1,by simp,λa ha b hb=> ?_⟩;simp at hb;subst hb;intro e;subst e;exact LH ha
     ·rcases SS.1 hz with h|h
      ·exact ay.2.1 z h
      ·rw[S8.1 h];exact hy
     ·rw[J5,jy]at hh;split at hh
      ·exact ay.2.2 _ hh
      ·rcases SS.1 hh with h'|h'
       ·exact ay.2.2 _ h'
       ·rw[S8.1 h'];exact sG
    have hlen:vs.length<ts.length:=by
     have h1:(vs++[y]).Nodup:=Dh _ sX.1;have:=h1.length_le_of_subset sX.2.1;simp at this;omega
    have rA:ts.length-(vs++[y]).length<ts.length-vs.length:=(by simp;omega);have FV:∀sn,bH (B R2 (ac (vs++[y]))++[aa.cells (G.l mg) 88,aa.iter mg ck sn ck]):=λsn z hz=>by
     rcases SS.1 hz with h|h
     ·exact(cD _ _ z h).mono (by simp)
     ·have JR:∀a∈G.l mg,Lt H1.length a:=λa ha=>by
       simp only[Kn.l,SK,SS,Tl]at ha;rcases ha with rfl|rfl|⟨_,_,rfl⟩|⟨_,_,rfl⟩|⟨_,_,rfl⟩|⟨_,_,rfl⟩|⟨_,_,rfl⟩
       ·exact .val _
       ·exact .mp (by omega)
       all_goals exact .val _
      simp only[SK,SZ,or_false]at h;rcases h with rfl|rfl
      ·intro a ha;exact(JR a ha).mono (by simp[fI])
      ·show mg<_;simp[fI];omega
    rw[aab];refine dX F.Og (dX (yr _) ⟨Fz _,_,FE,?_⟩);rcases Ju (x:=y.1) (hs:=ac vs)with⟨h,CB⟩|⟨i',b,h,h2,CB⟩
    ·rw[h];(try simp only[seval,AV.found]);refine am ?_;refine aF ?_;refine eM 5 ?_;simp only[seval,nZ,QN,QF,jV,hlen,sG];rw[aab];refine dX (yr _) (dX rfl ⟨Fz _,_,FE,?_,?_⟩)
     ·intro i v oY;rw[h]at oY;cases oY
     ·rw[h,abM,<- acj,ajn,show ac vs++[y.1]=ac (vs++[y]) by rw[J5,jy,if_neg CB],F2];refine hR _ ⟨vs++[y],rA,sX,?_⟩;exact AE (po rfl rfl) (by simp only[seval]<;>simp[bC,Wk.refl]) (FV _) (by simp[eC])
    ·rw[h];(try simp only[seval,AV.found]);refine am ?_;refine aF ?_;refine aO ?_;rw[show ac vs=ac (vs++[y]) by rw[J5,jy,if_pos CB],F2];refine hR _ ⟨vs++[y],rA,sX,?_⟩;exact AE (po rfl rfl) (by simp only[seval]<;>simp[bC,Wk.refl]) (FV _) (by simp[eC])
   ·have hp:vs.Perm ts:=ab6 ay.1 CA ay.2.1 λy hy=>by
     have:=hs (ek y) (by simp;exact⟨y.1,y.2,hy,rfl⟩) (hb y hy);simpa[ek]using this
    refine aF ?_;refine cp ?_;obtain⟨K,hK⟩:∃K:Nat->Nat->Kn,∀i j,K i j={R2 with aB:=nH R2.aB G.aB i,hours:=nH R2.hours G.hours i,less:=nH R2.less G.less i,aV:=nH R2.aV G.aV j}:=⟨_,λ_ _=>rfl⟩;have QM:K 0 0=R2:=(by rw[hK];rfl);refine am ?_;refine cP ?_;refine iu 4 (λi:Nat=>[(57,iv i)]) (λi=>B (K i 0) (ac vs)++[.cells (G.l mg) 88,.iter mg ck (vs.map (·.2)).toArray ck]) (λi=>bJ (K i 0)) (λ_ _=>rfl) (by simp only[seval];simp[bC,Wk.refl]) (by rw[QM]) (λ_ _ _=>by simp[fI]) (by rw[QM];exact ui) (λas8 atc i cR uA R hR=> ?_);refine am ?_;refine aF ?_;refine⟨λh=> ?_,λh=> ?_⟩
    ·have bF:i<4:=(by omega);obtain⟨a1,re⟩:=cj (xs:=(K i 0).aB) (i:=i) (by have:=uA.aB;omega);obtain⟨a2,Cc⟩:=cj (xs:=(K i 0).hours) (i:=i) (by have:=uA.hours;omega);obtain⟨a3,Fq⟩:=cj (xs:=(K i 0).less) (i:=i) (by have:=uA.less;omega);obtain⟨c1,dl⟩:=cj (xs:=G.aB) (i:=i) (by have:=hG.aB;omega);obtain⟨c2,cL⟩:=cj (xs:=G.hours) (i:=i) (by have:=hG.hours;omega);obtain⟨c3,dO⟩:=cj (xs:=G.less) (i:=i) (by have:=hG.less;omega);have C4:=uA.mc _ (Tc re);have la2:=uA.mz _ (Tc Cc);have la3:=uA.mG _ (Tc Fq);have C6:=hG.mc _ (Tc dl);have lc2:=hG.mz _ (Tc cL);have lc3:=hG.mG _ (Tc dO);have b4:(0<=(i:Int)/\(i:Int)<4)=True:=(by simp;omega);have bP:SD.wrap ((i:Int)+1)=((i+1:Nat):Int):=(by rw[bB _ (by omega)];rfl);refine aO ?_;refine am ?_;obtain⟨Ka,B_⟩:∃Ka,Ka=({K i 0 with aB:=(K i 0).aB.set i (a1|||c1)}:Kn):=⟨_,rfl⟩;have GW:bJ Ka:=(by rw[B_];exact uA.acn (pw C4 C6));have sa:=Kn.abl (F:=K i 0) (mp:=mp) (p:=i) (v:=a1|||c1) (eI re);rw[<- B_]at sa;refine eM 13 ?_;simp only[seval,nZ,a_,b4,Kn.GU re,Kn.GU dl,Bu,G6 C4 C6,Kn.len uA mp];refine⟨by omega,?_⟩;rw[sa,Fg];obtain⟨Kb,Fi⟩:∃Kb,Kb=({Ka with hours:=Ka.hours.set i (a2|||c2)}:Kn):=⟨_,rfl⟩;have GX:bJ Kb:=(by rw[Fi];exact GW.acl (pw la2 lc2));have xB:Ka.hours[i]?=some a2:=(by rw[B_];exact Cc);have sb:=Kn.Sd GW (mp:=mp) (p:=i) (v:=a2|||c2) (eI xB);rw[<- Fi]at sb;refine eM 13 ?_;simp only[seval,nZ,a_,b4,Kn.K8 GW xB,Kn.K8 hG cL,Bu,G6 la2 lc2,Kn.len GW mp];refine⟨by omega,?_⟩;rw[sb,Fg];have Fv:Kb.less[i]?=some a3:=(by rw[Fi,B_];exact Fq);have sc:=Kn.aaH GX (mp:=mp) (p:=i) (v:=a3|||c3) (eI Fv);have xv:({Kb with less:=Kb.less.set i (a3|||c3)}:Kn)=K (i+1) 0:=by
      rw[Fi,B_,hK (i+1)];simp only[hK]at re Cc Fq⊢;rw[G5 re dl,G5 Cc cL,G5 Fq dO]
     have MG:bJ (K (i+1) 0):=(by rw[<- xv];exact GX.acm (pw la3 lc3));rw[xv]at sc;refine eM 13 ?_;simp only[seval,nZ,a_,b4,Kn.Ml GX Fv,Kn.Ml hG dO,Bu,G6 la3 lc3,Kn.len GX mp];refine⟨by omega,?_⟩;rw[sc,Fg];refine aj ?_;simp only[seval,bP];exact hR _ ⟨bF,MG,dF⟩
    ·have du:i=4:=(by omega);subst du;refine cp ?_;refine am ?_;refine cP ?_;refine iu 3 (λi:Nat=>[(103,iv i)]) (λj=>B (K 4 j) (ac vs)++[.cells (G.l mg) 88,.iter mg ck (vs.map (·.2)).toArray ck]) (λj=>bJ (K 4 j)) (λ_ _=>rfl) (by simp only[seval];simp[bC,Wk.refl]) rfl (λ_ _ _=>by simp[fI]) uA (λas9 atd j oZ zY R hR=> ?_);refine am ?_;refine aF ?_;refine⟨λh=> ?_,λh=> ?_⟩
     ·have eX:j<3:=(by omega);obtain⟨a1,re⟩:=cj (xs:=(K 4 j).aV) (i:=j) (by have:=zY.aV;omega);obtain⟨c1,dl⟩:=cj (xs:=G.aV) (i:=j) (by have:=hG.aV;omega);have C4:=zY.lK _ (Tc re);have C6:=hG.lK _ (Tc dl);have b3:(0<=(j:Int)/\(j:Int)<3)=True:=(by simp;omega);have bP:SD.wrap ((j:Int)+1)=((j+1:Nat):Int):=(by rw[bB _ (by omega)];rfl);refine aO ?_;refine am ?_;have sa:=Kn.abE zY (mp:=mp) (p:=j) (v:=a1|||c1) (eI re);have xv:({K 4 j with aV:=(K 4 j).aV.set j (a1|||c1)}:Kn)=K 4 (j+1):=by
       rw[hK 4 (j+1)];simp only[hK]at re⊢;rw[G5 re dl]
      have MG:bJ (K 4 (j+1)):=(by rw[<- xv];exact zY.pA (pw C4 C6));rw[xv]at sa;refine eM 13 ?_;simp only[seval,nZ,a_,b3,Kn.Dt zY re,Kn.Dt hG dl,Bu,G6 C4 C6,Kn.len zY mp];refine⟨by omega,?_⟩;rw[sa,Fg];refine aj ?_;simp only[seval,bP];exact hR _ ⟨eX,MG,dF⟩
     ·have KO:j=3:=(by omega);subst KO;refine cp ?_;have Lb:(vs.map (·.1)).Perm G.aK:=by
       have:=hp.map (·.1);rw[Lz]at this;exact this
      have ajs:ac vs=(vs.map (·.1)).foldl jy Q.aK:=(by rw[Fs,J4,List.foldl_map]);have hJ:gQ Q (vs.map (·.1)) G={K 4 3 with aK:=ac vs}:=by
       have e2:R2=⟨true,Q.aK,Q.aB,Q.hours,Q.less,Q.aV,if Q.has=false\/sw G.first Q.first=true then G.first else Q.first⟩:=by
        rw[xw,pQ];split<;>rfl
       rw[gQ,if_pos KB,hK,G4 (by rw[ui.aB,hG.aB]) ui.aB,G4 (by rw[ui.hours,hG.hours]) ui.hours,G4 (by rw[ui.less,hG.less]) ui.less,G4 (by rw[ui.aV,hG.aV]) ui.aV,ajs,e2]
      have:=dV (vs.map (·.1)) _ [.cells (G.l mg) 88,.iter mg ck (vs.map (·.2)).toArray ck] Lb hJ;rw[show B ({K 4 3 with aK:=ac vs}:Kn) (ac vs)=B (K 4 3) (ac vs) by rw[hB,hB];rfl]at this;exact this
open Go.Conc Go.Proofs Go.Gg.Tk
namespace Tk
theorem By{l:List Nat}{i v:Nat}:(oL l i v).length=l.length:=by simp[oL]
theorem Er{l:List Nat}{i v:Nat}(h:∀n∈l,n<65536)(hv:v<16):∀n∈oL l i v,n<65536:=by
 refine Db h (pw ?_ (wG hv));rw[SE];cases hi:l[i]?with
 |none=>exact(by decide:0<65536)
 |some a=>exact h _ (Tc hi)
theorem aq0{x:ak}{t:List Int}(ht:jj x t){p:Nat}(hp:p<x.pieces.length):mh t p<16:=by
 obtain⟨n,h1,h2,_⟩:=ht.num p hp;unfold mh;rw[SE,h1];show n<16;omega
theorem aqZ{t:List Int}(h:t.length=11){p:Nat}:DM t p<16:=by
 unfold DM;have h5:je (t.take 4) (t.getD (4+p) 0+t.getD 0 0)<0+(t.take 4).length:=adc;have:(t.take 4).length=4:=by simp[h]
 omega
theorem aq1{x:ak}{t:List Int}(ht:jj x t){s:Nat}(hs:s<x.aC.length):rU t s<16:=by
 obtain⟨n,h1,h2⟩:=ht.own s hs;unfold rU;rw[SE,h1];show n<16;omega
theorem abD{x:ak}{t:List Int}(ht:jj x t){l:List Nat}(hl:∀n∈l,n<65536):∀{s:Nat},s<=x.aC.length->(mI t s l).length=l.length/\∀n∈mI t s l,n<65536
 |0,_=>⟨rfl,hl⟩
 |s+1,h=>by
  obtain⟨h1,h2⟩:=abD ht hl (s:=s) (by omega);exact⟨By.trans h1,Er h2 (aq1 ht (by omega))⟩
theorem abh{x:ak}{t:List Int}(ht:jj x t){l:List Nat}(hl:∀n∈l,n<65536):∀{s:Nat},s<=x.pieces.length->(rN t s l).length=l.length/\∀n∈rN t s l,n<65536
 |0,_=>⟨rfl,hl⟩
 |s+1,h=>by
  obtain⟨h1,h2⟩:=abh ht hl (s:=s) (by omega);exact⟨By.trans h1,Er h2 (aq0 ht (by omega))⟩
theorem Sc{t:List Int}(ht:t.length=11){l:List Nat}(hl:∀n∈l,n<65536):∀{s:Nat},(v8 t s l).length=l.length/\∀n∈v8 t s l,n<65536
 |0=>⟨rfl,hl⟩
 |s+1=>by
  obtain⟨h1,h2⟩:=Sc ht hl (s:=s);exact⟨By.trans h1,Er h2 (aqZ ht)⟩
theorem aaG{t:List Int}{p:Nat}{l:List Nat}(hl:∀n∈l,n<65536):∀{q:Nat},q<=4->(wm t p q l).length=l.length/\∀n∈wm t p q l,n<65536
 |0,_=>⟨rfl,hl⟩
 |q+1,h=>by
  obtain⟨h1,h2⟩:=aaG hl (q:=q) (t:=t) (p:=p) (by omega);unfold wm;split
  ·exact⟨By.trans h1,Er h2 (by omega)⟩
  ·exact⟨h1,h2⟩
theorem aaF{t:List Int}{k:Nat}(hk:k<=4){l:List Nat}(hl:∀n∈l,n<65536):∀{p:Nat},(yg t k p l).length=l.length/\∀n∈yg t k p l,n<65536
 |0=>⟨rfl,hl⟩
 |p+1=>by
  obtain⟨h1,h2⟩:=aaF hk hl (p:=p) (t:=t);obtain⟨h3,h4⟩:=aaG h2 (t:=t) (p:=p) hk;exact⟨h3.trans h1,h4⟩
theorem abJ{hs:List (List Int)}{h:List Int}(h1:∀y∈hs,y.length=4)(h2:h.length=4):∀y∈jy hs h,y.length=4:=λy hy=>by
 unfold jy at hy;split at hy
 ·exact h1 y hy
 ·rcases SS.1 hy with h'|h'
  ·exact h1 y h'
  ·rw[S8.1 h'];exact h2
theorem NB{x:ak}{deep:Int}{Q:Kn}{t:List Int}(hx:x.Ok)(ht:jj x t)(hQ:bJ Q):bJ (ey x deep Q t):=by
 have hB:=OX hQ ht.len;unfold ey;dsimp only;generalize jD Q t=R at hB;split
 ·obtain⟨h1,h2⟩:=abD ht hB.lK (SQ _);exact⟨hB.aB,hB.hours,hB.less,h1.trans hB.aV,hB.first,hB.mc,hB.mz,hB.mG,h2,hB.h4⟩
 ·split
  ·exact⟨hB.aB,hB.hours,hB.less,hB.aV,hB.first,hB.mc,hB.mz,hB.mG,hB.lK,abJ hB.h4 (by simp[ht.len])⟩
  ·obtain⟨h1,h2⟩:=abh ht hB.mc (SQ _);obtain⟨h3,h4⟩:=Sc ht.len hB.mz (s:=x.pieces.length);obtain⟨h5,h6⟩:=aaF (t:=t) hx.dY hB.mG (p:=x.pieces.length);exact⟨h1.trans hB.aB,h3.trans hB.hours,h5.trans hB.less,hB.aV,hB.first,h2,h4,h6,hB.lK,hB.h4⟩
theorem NL{x:ak}{deep:Int}{h t:List Int}(ht:t∈jf x deep h):∃ns∈fP x h,t∈(ij x h ns).map (dx h ns):=by
 have key:t∈((fP x h).map λns=>(ij x h ns).map λos=>dx h ns os).flatten:=by
  unfold jf at ht;dsimp only at ht;split at ht
  ·exact Wq ht
  ·split at ht
   ·obtain⟨l,h1,h2⟩:=XK.1 ht;obtain⟨m,h3,rfl⟩:=Tl.1 h1;exact XK.2 ⟨m,h3,Wq h2⟩
   ·exact ht
 obtain⟨l,h1,h2⟩:=XK.1 key;obtain⟨ns,h3,rfl⟩:=Tl.1 h1;exact⟨ns,h3,h2⟩
theorem C3:bJ Kn.zero:=by
 have h0:∀k:Nat,∀n∈TF k 0,n<65536:=λk n h=>by rw[(Xw.1 h).2];decide
 exact⟨rfl,rfl,rfl,rfl,rfl,h0 4,h0 4,h0 4,h0 3,λh hh=>by cases hh⟩
theorem JE{x:ak}{deep:Int}(hx:x.Ok):∀{ts:List (List Int)}{Q:Kn},(∀t∈ts,jj x t)->bJ Q->bJ (ts.foldl (ey x deep) Q)
 |[],Q,_,h=>h
 |t::ts,Q,ht,h=>by rw[UY];exact JE hx (λu hu=>ht u (by simp[hu])) (NB hx (ht t (by simp)) h)
end Tk
theorem yc{K:Kn}{mp m:Nat}(h:mp<m):∀a∈K.l mp,Lt m a:=λa ha=>by
 simp only[Kn.l,SK,SS,Tl]at ha;rcases ha with rfl|rfl|⟨_,_,rfl⟩|⟨_,_,rfl⟩|⟨_,_,rfl⟩|⟨_,_,rfl⟩|⟨_,_,rfl⟩
 ·exact .val _
 ·exact .mp h
 all_goals exact .val _
theorem Gy{K:Kn}{mp m:Nat}(h:∀a∈K.l mp,Lt m a):mp<m:=by
 cases h (.mp mp) (by simp[Kn.l]);assumption
def cs:T6->T6
 |.seq _ c=>c
 |_=> .skip
def cf:T6->T6
 |.seq c _=>c
 |_=> .skip
noncomputable def aau:T6:=asg.body.getD .skip
def uM (x:ak)(bk:Nat)(deep:Int)(c:Nat)(w:SO):List (Nat×AV):=[(12,.fn (.func 86) [] [.op 2 0,.op 3 0]),(5,.op 1 0),(0,.val w),(1,.rp x.l),(2,.rp [iv bk]),(3,.rp [iv deep]),(4,.rp [.val (.chan (some c))])]
def wi (x:ak)(bk:Nat)(K:Kn):List aa:=[setH K.aK,.cells (K.l 0) 88,.cells x.l 76,.cells [iv bk] 3]
theorem alI{lv:Bool}{x:ak}{bk c:Nat}{w:SO}{deep:Int}{bs:List UX}(hx:x.Ok)(lF:bk<=3)(hA:∀h∈kq x bk,mm h/\∀ns∈fP x h,∀a∈(ij x h ns).map (dx h ns),jj x a)(Φ:ao->AS->List Nat->Prop)(hΦ:Φ .normal ⟨uM x bk deep c w,wi x bk (gG x deep bk)++[.obj (.deferred (some [])),.gone]⟩ [4]):
  j7 lv SA 25 bs (cs (cf (cs (cs aau)))) ⟨uM x bk deep c w,wi x bk Kn.zero⟩ [] Φ:=by
 unfold aau asg;dsimp only[S7,cs,cf];refine w8 ?_;refine IA (by rfl) λl fn T ag bo hT xz pX=> ?_;(try simp only[seval,wi]);simp only[uM,iv]at hT;have bM:x.l=[iv x.first,iv x.hours,iv x.an,dC x.seen,aT x.pieces,aT x.aC]:=rfl;obtain⟨Gf,nb⟩:∃Gf:Kn->List aa,∀K,Gf K=[setH K.aK,.cells (K.l 0) 88,.cells x.l 76,.cells [iv bk] 3,.obj (.deferred (some [])),.loop l .ready none fn T 25 #[13] ag bo 4]:=⟨_,λ_=>rfl⟩;have JR:∀K,(Gf K).length=6:=λK=>by rw[nb];rfl
 have ajo:∀m K K',(∀z∈Gf K,eK m z)->∀z∈Gf K',eK m z:=λm K K' hz z eT=>by
  rw[nb]at hz eT;have h1:=hz (.cells (K.l 0) 88) (by simp);simp only[SK,SZ,or_false]at eT;rcases eT with rfl|rfl|rfl|rfl|rfl|rfl
  ·trivial
  ·exact yc (Gy h1)
  ·exact hz _ (by simp)
  ·exact hz _ (by simp)
  ·exact hz _ (by simp)
  ·exact hz _ (by simp)
 have hY:jC lv SA (.fn (.yield l) [] []) (λK h=> .go ((jf x deep h).foldl (ey x deep) K)) Gf 6 bJ (λh=>mm h/\∀ns∈fP x h,∀a∈(ij x h ns).map (dx h ns),jj x a) (.aN []):=by
  refine⟨λK h M k kp hK ha dM=> ?_,λK h K' hK ha he=> ?_,JR,ajo,rfl,rfl,rfl⟩
  ·obtain⟨oX,CQ⟩:=ha;have h4:=oX.len;have na:(h.map iv).length=4:=(by rw[Tn,h4]);obtain⟨Lo,kK⟩:∃Lo,Lo=aa.loop l .busy none fn T 25 #[13] ag bo 4:=⟨_,rfl⟩;obtain⟨P1,dq⟩:∃P1:Kn->List aa,∀K,P1 K=[setH K.aK,.cells (K.l 0) 88,.cells x.l 76,.cells [iv bk] 3,.obj (.deferred (some [])),Lo]++M:=⟨_,λ_=>rfl⟩;have ee:∀K,(P1 K).length=6+M.length:=λK=>(by rw[dq];simp;omega);have pg:∀(K:Kn)(L:List aa)(i:Nat),i<6->(P1 K++L)[i]?=[setH K.aK,aa.cells (K.l 0) 88,.cells x.l 76,.cells [iv bk] 3,.obj (.deferred (some [])),Lo][i]?:=λK L i KH=>by
    rw[dq,SC,SX (by simpa using KH)]
   have pb:∀(K:Kn)(L:List aa)(i:Nat),(P1 K++L)[6+M.length+i]?=L[i]?:=λK L i=>(by rw[<- ee K,ba]);have wy:∀(K:Kn)(L:List aa),(P1 K++L)[6+M.length]?=L[0]?:=λK L=>pb K L 0;have pz:∀(K:Kn)(L:List aa)(y:aa),(P1 K++L).set (6+M.length+4) y=P1 K++L.set 4 y:=λK L y=>(by rw[<- ee K,dJ]);have s5:∀(K:Kn)(L:List aa) y,(P1 K++L).set 5 y=[setH K.aK,.cells (K.l 0) 88,.cells x.l 76,.cells [iv bk] 3,.obj (.deferred (some [])),y]++M++L:=λK L y=>(by rw[dq];rfl);have As:∀(K K':Kn)(L L':List aa),L'.length=L.length->(∀q,(∀z∈L,eK q z)->∀z∈L',eK q z)->bH (P1 K++L)->bH (P1 K'++L'):=λK K' L L' hl hL hH z hz=>by
    have hlen:(P1 K'++L').length=(P1 K++L).length:=(by simp[ee,hl]);rw[hlen];rcases SS.1 hz with h'|h'
    ·rw[dq]at h';rcases SS.1 h' with h'|h'
     ·have h1:=hH (.cells (K.l 0) 88) (by rw[dq];simp);have hq:∀w∈[setH K.aK,aa.cells (K.l 0) 88,.cells x.l 76,.cells [iv bk] 3,.obj (.deferred (some [])),Lo],eK (P1 K++L).length w:=λw hw=>hH w (by rw[dq,SC];exact Tf _ hw);simp only[SK,SZ,or_false]at h';rcases h' with rfl|rfl|rfl|rfl|rfl|rfl
      ·trivial
      ·exact yc (Gy h1)
      ·exact hq _ (by simp)
      ·exact hq _ (by simp)
      ·exact hq _ (by simp)
      ·exact hq _ (by simp)
     ·exact hH z (by rw[dq];simp[h'])
    ·exact hL _ (λw hw=>hH w (S0 _ hw)) z h'
   simp only[cV]at dM;rw[nb]at dM;rw[nb];subst hT xz pX;refine vA (id:=5) (by rfl) rfl (by kernel_rfl) λn4 JN=> ?_;simp only[r6];have vU:TR 4 [iv 0,iv 0,iv 0,iv 0]=[]:=rfl;refine aj ?_;simp only[seval,uM,h4,vU];unfold tS;refine⟨none,fn,_,25,#[13],_,_,_,by rfl,?_⟩;dsimp only;simp only[UE,T1];rw[<- kK];have xr:M.length+1+1+1+1+1+1=6+M.length:=(by omega);rw[xr];have xI:∀z:aa,(setH K.aK::aa.cells (K.l 0) 88::aa.cells x.l 76::aa.cells [AV.val (SF SD ↑bk)] 3::aa.obj (atX (some []))::Lo::(M++[z]))=P1 K++[z]:=λz=>(by rw[dq];rfl);rw[xI];refine aj ?_;simp only[seval,bM,wy,h4,na];rw[SP (i:=4) (l:=h.map iv) (by rw[na];exact SQ _)];refine aL ((Jn (x:=x) (h:=h) (deep:=deep) ?_));(try simp only[seval]);refine cP ?_;have p9:∀(K:Kn)(a b c d:aa),(P1 K++[a,b,c,d]).length=6+M.length+4:=λK a b c d=>(by simp[ee]);refine Ew 5 (by rfl) (by show (P1 K++_)[5]?=_;rw[pg K _ 5 (by omega),kK];rfl) λl2 eG T2 gq gr n9 xA xC=> ?_;simp only[seval];rw[ee]at n9⊢;have xy:jC lv SA (.fn (.yield l2) [] []) (λK t=> .go (ey x deep K t)) (λK=>P1 K++[.cells (h.map iv) 83,.cells x.l 76,.cells (h.map iv) 83,.cells [iv deep] 3,.loop l2 .ready none eG T2 25 #[18] gq gr 4]) (6+M.length+5) bJ (jj x) (.aN []):=by
    refine⟨λK' t M2 k2 yd JV ht kR=> ?_,λK' t A' JV ht he=> ?_,λK'=>by simp[ee],λq K' A' hz z eT=> ?_,rfl,rfl,rfl⟩
    ·have qj:=ht.len;have Ah:(t.map iv).length=11:=(by rw[Tn,qj]);obtain⟨pF,sI⟩:∃Lo,Lo=aa.loop l2 .busy none eG T2 25 #[18] gq gr 4:=⟨_,rfl⟩;obtain⟨Q1,fW⟩:∃Q1:Kn->List aa,∀K,Q1 K=P1 K++([.cells (h.map iv) 83,.cells x.l 76,.cells (h.map iv) 83,.cells [iv deep] 3,pF]++M2):=⟨_,λ_=>rfl⟩;obtain⟨C,hC⟩:∃C,C=6+M.length+5+M2.length:=⟨_,rfl⟩;have J3:∀K,(Q1 K).length=C:=λK=>(by rw[fW,hC];simp[ee];omega);have lM:∀(K:Kn)(L:List aa),(P1 K++L)[6+M.length+4]?=L[4]?:=λK L=>pb K L 4;have q0:∀(K:Kn)(L:List aa),(Q1 K++L)[0]?=some (setH K.aK):=λK L=>(by rw[fW,SC];exact pg K _ 0 (by omega));have q1:∀(K:Kn)(L:List aa),(Q1 K++L)[1]?=some (.cells (K.l 0) 88):=λK L=>(by rw[fW,SC];exact pg K _ 1 (by omega));have q4:∀(K:Kn)(L:List aa),(Q1 K++L)[6+M.length+4]?=some pF:=λK L=>(by rw[fW,SC,lM];rfl);have qc:∀(K:Kn)(L:List aa),(Q1 K++L)[C]?=L[0]?:=λK L=>(by rw[<- J3 K];exact ba _ L 0);have Nb:∀(K:Kn)(L:List aa)(y:aa),(Q1 K++L).set (6+M.length+4) y=(P1 K++([.cells (h.map iv) 83,.cells x.l 76,.cells (h.map iv) 83,.cells [iv deep] 3,y]++M2))++L:=λK L y=>(by rw[fW,SC,pz];simp);have ao0:∀(K K':Kn)(L:List aa),((Q1 K++L).set 1 (.cells (K'.l 0) 88)).set 0 (setH K'.aK)=Q1 K'++L:=λK K' L=>(by rw[fW,fW,dq,dq];rfl);have fy:∀(A':Kn),bH (P1 K'++([.cells (h.map iv) 83,.cells x.l 76,.cells (h.map iv) 83,.cells [iv deep] 3,.loop l2 .ready none eG T2 25 #[18] gq gr 4]++M2))->bH (P1 A'++([.cells (h.map iv) 83,.cells x.l 76,.cells (h.map iv) 83,.cells [iv deep] 3,.loop l2 .ready none eG T2 25 #[18] gq gr 4]++M2)):=λA' g_=>As K' A' _ _ rfl (λq hz=>hz) g_;simp only[cV]at kR;have Kv:∀z:aa,P1 K'++(aa.cells (U8 iv h) 83::aa.cells x.l 76::aa.cells (U8 iv h) 83::aa.cells [AV.val (SF SD deep)] 3::pF::(M2++[z]))=Q1 K'++[z]:=λz=>(by rw[fW];simp[iv]);subst n9 xA xC;rw[SC];refine vA (id:=6+M.length+4) (by rw[lM];rfl) rfl (by kernel_rfl) λq_ JO=> ?_;simp only[r6];have Co:TR 11 [iv 0,iv 0,iv 0,iv 0,iv 0,iv 0,iv 0,iv 0,iv 0,iv 0,iv 0]=[]:=rfl;refine aj ?_;simp only[seval,qj,Co];unfold tS;refine⟨none,eG,_,25,#[18],_,_,_,by rw[lM];rfl,?_⟩;dsimp only;rw[pz];simp only[UE,T1];rw[<- sI];have B6:(P1 K').length+(M2.length+1+1+1+1+1)=C:=(by rw[ee,hC];omega);rw[B6];have iJ:∀z:aa,(P1 K'++aa.cells (U8 iv h) 83::aa.cells x.l 76::aa.cells (U8 iv h) 83::aa.cells [AV.val (SF SD deep)] 3::pF::(M2++[z]))=Q1 K'++[z]:=Kv;rw[iJ];refine aj ?_;simp only[seval,bM,qc,qj,Ah];rw[SP (i:=11) (l:=t.map iv) (by rw[Ah];exact SQ _)];refine aL ((aip (x:=x) (t:=t) (deep:=deep) (fp:=1) (mp:=0) (Q:=K') hx ht JV (by decide) (q1 K' _) (q0 K' _) ?_));rw[ao0];(try simp only[seval]);show oK _ _ _ _ _ _ _;refine⟨l2,.busy,none,eG,_,25,#[18],_,_,4,by show (Q1 _++_)[_]?=_;rw[q4,sI],?_⟩;show cC C ((Q1 _++_).set _ _) _ k2;rw[Nb];rw[SC]at kR;exact jH (G:=[.cells (t.map iv) 86]) (Wk.refl _) rfl (by rw[hC];simp[ee];omega) (fy _ q_) (.val _) kR
    ·cases he;exact NB hx ht JV
    ·rcases SS.1 eT with h'|h'
     ·have h1:=hz (.cells (K'.l 0) 88) (by rw[dq];simp);rw[dq]at h';rcases SS.1 h' with h'|h'
      ·simp only[SK,SZ,or_false]at h';rcases h' with rfl|rfl|rfl|rfl|rfl|rfl
       ·trivial
       ·exact yc (Gy h1)
       all_goals exact hz _ (by rw[dq];simp)
      ·exact hz z (by rw[dq];simp[h'])
     ·exact hz z (S0 _ h')
   refine c9 (Jr (x:=x) (h:=h) (deep:=deep) (ir:=6+M.length+1) (ih:=6+M.length+1+1) (id:=6+M.length+1+2) (σ:=K) hx oX xy (λK L=> ?_) (λK L=> ?_) (λK L=> ?_) (λn=>by simp[jx]) hK (λa ha=>ha.len) CQ ?_)
   ·rw[SC];exact pb _ _ 1
   ·rw[SC];exact pb _ _ 2
   ·rw[SC];exact pb _ _ 3
   rw[Dv (g:=ey x deep) (λ_ _=>rfl)];simp only[fS,SN];have lM:∀(K:Kn)(L:List aa),(P1 K++L)[6+M.length+4]?=L[4]?:=λK L=>pb K L 4;refine⟨.ready,none,_,_,_,_,_,_,_,by rw[lM];rfl,by decide,?_⟩;rw[pz,Hb];(try simp only[seval]);show oK _ _ _ _ _ _ _;have ata:=kK;refine⟨l,.busy,none,fn,_,25,#[13],_,_,4,by show (P1 _++_)[_]?=_;rw[pg _ _ 5 (by omega),kK];rfl,?_⟩;show cC (6+M.length) ((P1 _++_).set _ _) _ k;rw[s5];refine jH (G:=[.cells (h.map iv) 83,.cells x.l 76,.cells (h.map iv) 83,.cells [iv deep] 3,.gone]) (Wk.refl _) rfl (by simp;omega) ?_ (.val _) dM;intro z hz;have h1:=n4 (.cells (K.l 0) 88) (by simp);have hlen:∀(y:aa),([setH (aa' (ey x deep) K (jf x deep h)).aK,aa.cells ((aa' (ey x deep) K (jf x deep h)).l 0) 88,.cells x.l 76,.cells [iv bk] 3,.obj (.deferred (some [])),y]++M).length=(setH K.aK::aa.cells (K.l 0) 88::aa.cells x.l 76:: .cells [iv bk] 3:: .obj (.deferred (some []))::y::M).length:=λy=>rfl;rcases SS.1 hz with h'|h'
   ·simp only[SK,SZ,or_false]at h';rcases h' with rfl|rfl|rfl|rfl|rfl|rfl
    ·trivial
    ·exact yc (Gy h1)
    all_goals exact n4 _ (by simp)
   ·exact n4 z (by simp[h'])
  ·cases he;exact JE hx (λt ht=>by obtain⟨ns,h1,h2⟩:=NL ht;exact ha.2 ns h1 t h2) hK
 have hgo:bD (λK h=>dA.go ((jf x deep h).foldl (ey x deep) K)) (kq x bk) Kn.zero=.go (gG x deep bk):=by
  rw[Dv (g:=λK h=>(jf x deep h).foldl (ey x deep) K) (λ_ _=>rfl),gG,List.foldl_flatMap]
 refine IG (by kernel_rfl) ?_;have e0:=nb Kn.zero;simp only[iv]at e0;rw[<- e0];refine Jp (lv:=lv) (x:=x) (bk:=bk) (N:=6) (ir:=2) (it:=3) (σ:=Kn.zero) hx hY (λK L=>by rw[nb];rfl) (λK L=>by rw[nb];rfl) lF (λn=>by simp[jx]) C3 hA ?_;rw[hgo];simp only[fS,SN];refine⟨.ready,none,_,_,_,_,_,_,_,by rw[nb];rfl,by decide,?_⟩;rw[nb,Ha];exact hΦ
open Go.Conc
inductive Ht where
 |z
 |s (f:To->Ht)
inductive A9:Ht->Ht->Prop where
 |mk (f:To->Ht) (w:To):A9 (f w) (.s f)
theorem alh:WellFounded A9:=by
 refine⟨λh=> ?_⟩;induction h with
 |z=>exact⟨_,λy hy=>by cases hy⟩
 |s f ih=>exact⟨_,λy hy=>by cases hy with|mk _ w=>exact ih w⟩
inductive lg (P:SI):Ht->View->SG->Prop where
 |step {f:To->Ht} {V V₁:View} {g:SG} (G':To->SG) (W':To->To) (E':To->Array Ur) (V':To->View) (hs:g.status=.running) (hg:dR V V₁)
   (h1:∀w,Sat V₁ w->stepG P false g w=.go (G' w) (W' w) (E' w)) (h2:∀w,Sat V₁ w->dc V₁ w (V' w) (W' w) (E' w)) (h3:∀w,Sat V₁ w->lg P (f w) (V' w) (G' w)):lg P (.s f) V g
 |send {h:Ht} {V V₁:View} {g:SG} (c Wg:Nat) (sp:Spec) (S:List Spec) (v z:SO) (B:Nat->Bool) (hs:g.status=.running) (hg:dR V V₁) (hr:V₁.role=.work c Wg (sp::S)) (hd:V₁.deaf=0) (ho:g.offers=none)
   (h1:∀w,Sat V₁ w->stepG P false g w=.comm g #[scase c v z] true .send w #[]) (h2:sp v V₁.ah (λb=>if B b then V₁.own b else none))
   (h3:lg P h {V₁ with own:=λb=>if B b then none else V₁.own b,role:=.work c Wg S} (T7 g undef)):lg P (.s λ_=>h) V g
 |done {V V₁:View} {g:SG} (c Wg:Nat) (hg:dR V V₁) (hr:V₁.role=.work c Wg []) (hd:V₁.deaf=0) (h1:Ed P Wg g):lg P (.s λ_=> .z) V g
 |slip {h:Ht} {V V₁:View} {g g':SG} (c Wg:Nat) (hs:g.status=.running) (hg:dR V V₁) (hr:V₁.role=.work c Wg []) (h1:∀w st,Sat V₁ w->WgAt P Wg w st 0->stepG P false g w=.go g' w #[]) (h3:lg P h V₁ g'):lg P (.s λ_=>h) V g
theorem lg.running{P:SI}{h:Ht}{V:View}{g:SG}(k:lg P h V g):g.status=.running:=by
 cases k with
 |step _ _ _ _ hs=>exact hs
 |send _ _ _ _ _ _ _ hs=>exact hs
 |done _ _ _ _ _ h1=>exact h1.1
 |slip _ _ hs=>exact hs
open Classical in
theorem arY(P:SI):yJ P false (λV g=>∃h,lg P h V g)where
 step V g hs h:=by
  have hc:∀w,∃h' g' w' es V',Sat V w->stepG P false g w=.go g' w' es/\dc V w V' w' es/\lg P h' V' g':=by
   intro w;by_cases hw:Sat V w
   ·obtain⟨g',w',es,V',h1,h2,h',h3⟩:=h w hw;exact⟨h',g',w',es,V',λ_=>⟨h1,h2,h3⟩⟩
   ·exact⟨.z,g,w,#[],V,λx=>absurd x hw⟩
  have oT:=λw=>(hc w).choose_spec.choose_spec.choose_spec.choose_spec.choose_spec;exact⟨.s λw=>(hc w).choose,.step (λw=>(hc w).choose_spec.choose) (λw=>(hc w).choose_spec.choose_spec.choose) (λw=>(hc w).choose_spec.choose_spec.choose_spec.choose)
   (λw=>(hc w).choose_spec.choose_spec.choose_spec.choose_spec.choose) hs (dR.refl V) (λw hw=>(oT w hw).1) (λw hw=>(oT w hw).2.1) (λw hw=>(oT w hw).2.2)⟩
 ghost V V' g hg h:=by
  obtain⟨h,hk⟩:=h;cases hk with
  |step a b c d e f x y z=>exact⟨_,.step a b c d e (hg.trans f) x y z⟩
  |send a b c d e f m n o p q r s t u=>exact⟨_,.send a b c d e f m n (hg.trans o) p q r s t u⟩
  |done a b o p q r=>exact⟨_,.done a b (hg.trans o) p q r⟩
  |slip a b f o p q r=>exact⟨_,.slip a b f (hg.trans o) p q r⟩
 send V g c Wg sp S v z B h1 h2 h3 h4 h5 h6 h7:=by
  obtain⟨h,hk⟩:=h7;exact⟨_,.send c Wg sp S v z B h3 (dR.refl V) h1 h2 h4 h5 h6 hk⟩
 done V g c Wg h1 h2 h3:=⟨_,.done c Wg (dR.refl V) h1 h2 h3⟩
 slip V g g' c Wg h1 h2 h3 h4:=by
  obtain⟨h,hk⟩:=h4;exact⟨_,.slip c Wg h2 (dR.refl V) h1 h3 hk⟩
structure yV where
 a:Nat
 h:Ht
 n:Nat
def qL:yV->yV->Prop:=λx y=>x.a<y.a\/(x.a=y.a/\(A9 x.h y.h\/(x.h=y.h/\x.n<y.n)))
theorem ao5:WellFounded qL:=by
 refine⟨λ⟨a,h,n⟩=> ?_⟩;induction a using Yn generalizing h n with
 |_ a iha=>
  induction h using alh.induction generalizing n with
  |_ h ihh=>
   induction n using Yn with
   |_ n LS=>
    refine⟨_,λ⟨a',h',n'⟩ hlt=> ?_⟩;rcases hlt with x|⟨rfl,x|⟨rfl,x⟩⟩
    ·exact iha a' x h' n'
    ·exact ihh h' x n'
    ·exact LS n' x
def Bl (N:Nat)(f' f:Nat->yV):Prop:=∃i,i<N/\qL (f' i) (f i)/\∀j,j≠i->f' j=f j
theorem aqe(N:Nat):WellFounded (Bl N):=by
 refine⟨?_⟩;induction N with
 |zero=>intro f;exact⟨_,λf' ⟨i,hi,_⟩=>by omega⟩
 |succ N ih=>
  have key:∀x:yV,∀f,f N=x->Acc (Bl (N+1)) f:=by
   intro x;induction x using ao5.induction with
   |_ x ihx=>
    intro f hf;have inner:∀f,Acc (Bl N) f->f N=x->Acc (Bl (N+1)) f:=by
     intro f ha;induction ha with
     |intro f _ LR=>
      intro hf;refine⟨_,λf' ⟨i,hi,hlt,ho⟩=> ?_⟩;by_cases fh:i=N
      ·subst fh;exact ihx (f' i) (hf▸hlt) f' rfl
      ·exact LR f' ⟨i,by omega,hlt,ho⟩ ((ho N (Ne.symm fh)).trans hf)
    exact inner f (ih f) hf
  exactλf=>key (f N) f rfl
def Bg (N:Nat)(x y:(Nat->yV)×Nat):Prop:=Bl N x.1 y.1\/(x.1=y.1/\x.2<y.2)
theorem aa1(N:Nat):WellFounded (Bg N):=by
 refine⟨λ⟨f,n⟩=> ?_⟩;induction f using(aqe N).induction generalizing n with
 |_ f LR=>
  induction n using Yn with
  |_ n LS=>
   refine⟨_,λ⟨f',n'⟩ hlt=> ?_⟩;rcases hlt with x|⟨x,y⟩
   ·exact LR f' x n'
   ·have x':f'=f:=x;subst x';exact LS n' y
open Go.ConcN
structure TI (t:Un)(B N:Nat)(rd wr:Nat->Loc->Prop)(Sh:Loc->Prop)(act:Nat->Prop)(ic:Nat):Prop where
 nr:∀said,¬Race said t
 low:∀op∈t,op.act.low B
 gs:∀op∈t,op.g<N
 norel:∀op∈t,∀a,op.act≠ .mark (.release a)
 kr:∀i,i<N->∀l,rd i l->PermW t i l
 kw:∀i,i<N->∀l,wr i l->Perm t i l
 sp:∀idx a,touchAt t idx=some a->Sh a.loc->(a.kind=.plain->∀i,act i->Wi t i idx)/\(a.kind=.said->Wi t ic idx)
def Fit (B:Nat)(rd wr:Nat->Loc->Prop)(Sh:Loc->Prop)(act:Nat->Prop)(ic i:Nat)(x:YJ):Prop:=
 (Sh x.loc/\x.kind=.atomic/\act i)\/(Sh x.loc/\x.kind=.said/\i=ic/\act i)\/(¬Sh x.loc/\(wr i x.loc\/(rd i x.loc/\x.write=false)\/¬x.loc.low B))
theorem amL{B:Nat}{m:MemAct}(h:m.low B){x:YJ}(hx:m.touch?=some x):x.loc.low B:=by
 cases m with
 |access e=>simp only[Wa,Tj]at hx;subst hx;exact h
 |mark m=>cases m<;>simp[Wa]at hx<;>(subst hx;exact h)
 |_=>simp[Wa]at hx
theorem NK{t:Un}{B:Nat}(h:∀op∈t,op.act.low B){idx:Nat}{a:YJ}(ha:touchAt t idx=some a):a.loc.low B:=by
 obtain⟨x,hx,Gk⟩:=UU ha;exact amL (h x (XS hx)) Gk
theorem AU{t u:Un}{idx:Nat}{a:YJ}(h:touchAt (t++u) idx=some a):touchAt t idx=some a\/(t.size<=idx/\∃op∈u,(t++u)[idx]?=some op/\op.act.touch?=some a):=by
 obtain⟨x,hx,Gk⟩:=UU h;rcases Xj hx with⟨_,jw⟩|⟨hi,hu⟩
 ·exact .inl (by rw[touchAt_of jw];exact Gk)
 ·exact .inr ⟨hi,x,hu,hx,Gk⟩
theorem TI.app{t:Un}{B N B':Nat}{rd wr rd' wr':Nat->Loc->Prop}{Sh:Loc->Prop}{act:Nat->Prop}{ic:Nat}(h:TI t B N rd wr Sh act ic){u:Un}{i:Nat}(hi:i<N)(hu:∀op∈u,op.g=i)
  (hf:∀op∈u,∀x,op.act.touch?=some x->Fit B rd wr Sh act ic i x) (hl:∀op∈u,op.act.low B') (hB:B<=B') (hn:∀op∈u,∀a,op.act≠ .mark (.release a))
  (Lh:∀j l,j≠i->rd' j l->rd j l) (rH:∀j l,j≠i->wr' j l->wr j l) (hri:∀l,rd' i l->l.low B->rd i l\/wr i l) (x9:∀l,wr' i l->l.low B->wr i l)
  (ex:∀l j,j≠i->(wr i l->¬rd j l/\¬wr j l)/\(rd i l->¬wr j l)) (Hu:∀l j,Sh l->¬rd j l/\¬wr j l) (aaN:∀j l,rd j l\/wr j l->l.low B):
  TI (t++u) B' N rd' wr' Sh act ic where
 nr said:=by
  refine noRace_append (h.nr said) hu λidx a ha op az b hb hc=> ?_;have aY:=hc;obtain⟨cS,_,KR,p9⟩:=hc;rcases hf op az b hb with⟨h1,h2,h3⟩|⟨h1,h2,h3,h4⟩|⟨_,h2|⟨h2,h3⟩|h2⟩
  ·rw[h2]at p9;rcases p9 with x|x|⟨_,_,x⟩
   ·exact(h.sp idx a ha (cS▸h1)).1 x i h3
   ·cases x
   ·cases x
  ·rw[h2]at p9;rcases p9 with x|x|⟨_,x,_⟩
   ·exact(h.sp idx a ha (cS▸h1)).1 x i h4
   ·cases x
   ·rw[h3];exact(h.sp idx a ha (cS▸h1)).2 x
  ·exact h.kw i hi _ h2 idx a ha cS
  ·exact h.kr i hi _ h2 idx a ha cS (by rw[h3]at KR;simpa using KR)
  ·exact absurd (cS▸NK h.low ha) h2
 low op az:=(Uu.1 az).elim (λx=>Zi hB (h.low op x)) (hl op)
 gs op az:=(Uu.1 az).elim (h.gs op) (λx=>by rw[hu op x];exact hi)
 norel op az:=(Uu.1 az).elim (h.norel op) (hn op)
 kr j hj l uD:=by
  by_cases b9:j=i
  ·subst b9;intro idx a ha gC hw;rcases AU ha with fX|⟨_,op,az,cX,hx⟩
   ·have h_:l.low B:=gC▸NK h.low fX;rcases hri l uD h_ with x|x
    ·exact(h.kr j hj l x idx a fX gC hw).app u
    ·exact(h.kw j hj l x idx a fX gC).app u
   ·have:=Zc cX;rwa [hu op az]at this
  ·have CI:=Lh j l b9 uD;refine(h.kr j hj l CI).app λop az b hb cK hw=> ?_;exfalso;rcases hf op az b hb with⟨h1,_⟩|⟨h1,_⟩|⟨_,h2|⟨_,h3⟩|h2⟩
   ·exact(Hu l j (cK▸h1)).1 CI
   ·exact(Hu l j (cK▸h1)).1 CI
   ·exact((ex l j b9).1 (cK▸h2)).1 CI
   ·rw[h3]at hw;cases hw
   ·exact h2 (cK▸aaN j l (.inl CI))
 kw j hj l rG:=by
  by_cases b9:j=i
  ·subst b9;intro idx a ha gC;rcases AU ha with fX|⟨_,op,az,cX,hx⟩
   ·exact(h.kw j hj l (x9 l rG (gC▸NK h.low fX)) idx a fX gC).app u
   ·have:=Zc cX;rwa [hu op az]at this
  ·have nC:=rH j l b9 rG;refine(h.kw j hj l nC).app λop az b hb cK=> ?_;exfalso;rcases hf op az b hb with⟨h1,_⟩|⟨h1,_⟩|⟨_,h2|⟨h2,_⟩|h2⟩
   ·exact(Hu l j (cK▸h1)).2 nC
   ·exact(Hu l j (cK▸h1)).2 nC
   ·exact((ex l j b9).1 (cK▸h2)).2 nC
   ·exact(ex l j b9).2 (cK▸h2) nC
   ·exact h2 (cK▸aaN j l (.inr nC))
 sp idx a ha db:=by
  rcases AU ha with fX|⟨_,op,az,cX,hx⟩
  ·exact⟨λhp j hj=>((h.sp idx a fX db).1 hp j hj).app u,λhp=>((h.sp idx a fX db).2 hp).app u⟩
  ·rcases hf op az a hx with⟨_,h2,_⟩|⟨_,h2,h3,_⟩|⟨h1,_⟩
   ·exact⟨λhp=>absurd (h2.symm.trans hp) (by simp),λhp=>absurd (h2.symm.trans hp) (by simp)⟩
   ·refine⟨λhp=>absurd (h2.symm.trans hp) (by simp),λ_=> ?_⟩;have:=Zc cX;rw[hu op az,h3]at this;exact this
   ·exact absurd db h1
theorem TI.weaken{t:Un}{B N B':Nat}{rd wr rd' wr':Nat->Loc->Prop}{Sh Oe:Loc->Prop}{act act':Nat->Prop}{ic kv:Nat}(h:TI t B N rd wr Sh act ic)(hB:B<=B')
  (Lh:∀i l,i<N->rd' i l->rd i l\/wr i l) (rH:∀i l,i<N->wr' i l->wr i l)
  (xX:∀idx a,touchAt t idx=some a->Oe a.loc->(a.kind=.plain->∀i,act' i->Wi t i idx)/\(a.kind=.said->Wi t kv idx)):TI t B' N rd' wr' Oe act' kv:=
 ⟨h.nr,λop az=>Zi hB (h.low op az),h.gs,h.norel,λi hi l x=>(Lh i l hi x).elim (h.kr i hi l) (λy=>PermW.of (h.kw i hi l y)),λi hi l x=>h.kw i hi l (rH i l hi x),xX⟩
theorem anh{t u:Un}(h:∀said,¬Race said t)(hn:∀op∈u,op.act.touch?=none):∀said,¬Race said (t++u):=by
 intro said
 rintro⟨i,j,jY,⟨a,b,ha,hb,hc⟩,n1,n2⟩
 have old:∀{k:Nat}{x:YJ},((t++u).act? k).bind (·.touch?)=some x->k<t.size/\(t.act? k).bind (·.touch?)=some x:=by
  intro k x hx;obtain⟨y,hy,LI⟩:=UU hx;rcases Xj hy with⟨hk,pk⟩|⟨_,hyu⟩
  ·exact⟨hk,by simp[Trace.act?,pk,LI]⟩
  ·rw[hn y hyu]at LI;cases LI
 exact h said ⟨i,j,jY,⟨a,b,(old ha).2,(old hb).2,hc⟩,λe=>n1 (hb_app u e),λe=>n2 (hb_app u e)⟩
theorem AW{t u:Un}(hn:∀op∈u,op.act.touch?=none){idx:Nat}{a:YJ}(h:touchAt (t++u) idx=some a):touchAt t idx=some a:=by
 rcases AU h with h|⟨_,op,az,_,hx⟩
 ·exact h
 ·rw[hn op az]at hx;cases hx
theorem TI.mute{t:Un}{B N N':Nat}{rd wr rd' wr':Nat->Loc->Prop}{Sh:Loc->Prop}{act act':Nat->Prop}{ic kv:Nat}(h:TI t B N rd wr Sh act ic){u:Un}(hn:∀op∈u,op.act.touch?=none)(hl:∀op∈u,op.act.low B)(hg:∀op∈u,op.g<N')(hN:N<=N')
  (ry:∀op∈u,∀a,op.act≠ .mark (.release a))
  (kr:∀i,i<N'->∀l,rd' i l->∀idx a,touchAt t idx=some a->a.loc=l->a.write=true->Wi (t++u) i idx) (kw:∀i,i<N'->∀l,wr' i l->∀idx a,touchAt t idx=some a->a.loc=l->Wi (t++u) i idx)
  (sp:∀idx a,touchAt t idx=some a->Sh a.loc->(a.kind=.plain->∀i,act' i->Wi (t++u) i idx)/\(a.kind=.said->Wi (t++u) kv idx)):TI (t++u) B N' rd' wr' Sh act' kv:=
 ⟨anh h.nr hn,λop az=>(Uu.1 az).elim (h.low op) (hl op),λop az=>(Uu.1 az).elim (λx=>Td (h.gs op x) hN) (hg op),λop az=>(Uu.1 az).elim (h.norel op) (ry op),
  λi hi l x idx a ha=>kr i hi l x idx a (AW hn ha),λi hi l x idx a ha=>kw i hi l x idx a (AW hn ha),λidx a ha=>sp idx a (AW hn ha)⟩
theorem qX{t u:Un}{k:Nat}{x:V_}(h:u[k]?=some x):(t++u)[t.size+k]?=some x:=by
 rw[X7 (by omega)];simpa using h
theorem heard_new{t u:Un}{k g:Nat}{x:V_}(h:u[k]?=some x)(hx:x.g=g)(hd:(t++u).deaf g (t.size+k)=0):(t++u).heard (t.size+k):=⟨g,by simp[Wx,qX h,hx],hd⟩
def still (m:MemAct):Prop:=m≠ .mark .disable/\m≠ .mark .enable
theorem IR{g d:Nat}{y:V_}(h:still y.act):deafStep g d y=d:=by
 unfold deafStep;obtain⟨_,_,_,act⟩:=y;cases act with
 |mark m=>cases m<;>first|rfl|exact absurd rfl h.1|exact absurd rfl h.2
 |_=>rfl
theorem ua{t u:Un}{g:Nat}(hs:∀op∈u,still op.act):∀{k:Nat},k<=u.size->(t++u).deaf g (t.size+k)=UT t g:=by
 intro k;induction k with
 |zero=>intro _;exact deaf_old (SQ _)
 |succ k ih=>
  intro hk;have hlt:k<u.size:=by omega
  have hy:u[k]?=some u[k]:=SJ hlt;have e:=Z_ (g:=g) (qX (t:=t) hy);rw[show t.size+(k+1)=t.size+k+1 from rfl,e,ih (by omega),IR (hs _ (XU hlt))]
theorem Deaf_still{t u:Un}{g:Nat}(hs:∀op∈u,still op.act):UT (t++u) g=UT t g:=by
 have:=ua (t:=t) (g:=g) hs (SQ u.size);unfold UT;rw[XB];exact this
theorem amX{t u:Un}{k c s:Nat}{x0 x1 x2 x3:V_}(hu:u=#[x0,x1,x2,x3]) (h0:x0.g=k/\x0.act=.send c s) (h1:still x1.act) (h2:still x2.act) (h3:x3.g=0/\x3.act=.recvDone c s) (dk:UT t k=0) (d0:UT t 0=0) {idx:Nat} (h:Wi t k idx):Wi (t++u) 0 idx:=by
 have hs:∀op∈u,still op.act:=by
  subst hu;intro op az;simp only[TJ,SK,SZ,or_false]at az;rcases az with rfl|rfl|rfl|rfl
  ·rw[h0.2];exact⟨by simp,by simp⟩
  ·exact h1
  ·exact h2
  ·rw[h3.2];exact⟨by simp,by simp⟩
 have e0:u[0]?=some x0:=by subst hu;rfl
 have e3:u[3]?=some x3:=by subst hu;rfl
 have aW:u.size=4:=by subst hu;rfl
 have g0:=qX (t:=t) e0;have g3:=qX (t:=t) e3;have hh0:(t++u).heard (t.size+0):=heard_new e0 h0.1 (by rw[ua hs (by omega)];exact dk);have Rt:(t++u).heard (t.size+3):=heard_new e3 h3.1 (by rw[ua hs (by omega)];exact d0);have hb:HappensBefore (t++u) idx (t.size+0):=h.hb_new (by omega) g0 h0.1;exact⟨_,x3,g3,h3.1,.inr (hb.trans (.single (.inr ⟨.handOver (c:=c) (k:=s) (by rw[ae_ g0,h0.2]) (by rw[ae_ g3,h3.2]),hh0,Rt⟩)))⟩
theorem aez{t:Un}{a:U5}{r q i:Nat}{y:V_}(hr:t.act? r=some (.mark (.releaseMerge a)))(hh:t.heard r)(hn:∀op∈t,∀a,op.act≠ .mark (.release a))(hy:y.g=q/\y.act=.mark (.acquire a))(hd:UT t q=0)(hb:Before t i r):Wi (t++#[y]) q i:=by
 have e:(#[y]:Un)[0]?=some y:=rfl;have g:=qX (t:=t) e;have uD:=VZ hr;have aR:∀op∈(#[y]:Un),still op.act:=by
  intro op az;simp only[TJ,SK,SZ,or_false]at az;subst az;rw[hy.2];exact⟨by simp,by simp⟩
 have KG:(t++#[y]).heard (t.size+0):=heard_new e hy.1 (by rw[ua aR (by simp)];exact hd);refine⟨_,y,g,hy.1,.inr ((hb.app #[y]).hb (.single (.inr ⟨.marked (a:=a) (by omega) (.inr (by rw[X6 uD];exact hr)) (by rw[ae_ g,hy.2]) (λk iz cD e'=> ?_),(Wo uD).2 hh,KG⟩)))⟩;obtain⟨op,ho,hoa⟩:=Tp.1 e';rcases Xj ho with⟨_,bf⟩|⟨hk,_⟩
 ·exact hn op (XS bf) a hoa
 ·omega
theorem agf{t:Un}{c p q i:Nat}{y:V_}(hp:t.act? p=some (.close c))(hh:t.heard p)(hy:y.g=q/\y.act=.recvClosed c)(hd:UT t q=0)(hb:Before t i p):Wi (t++#[y]) q i:=by
 have e:(#[y]:Un)[0]?=some y:=rfl;have g:=qX (t:=t) e;have da:=VZ hp;have aR:∀op∈(#[y]:Un),still op.act:=by
  intro op az;simp only[TJ,SK,SZ,or_false]at az;subst az;rw[hy.2];exact⟨by simp,by simp⟩
 have KG:(t++#[y]).heard (t.size+0):=heard_new e hy.1 (by rw[ua aR (by simp)];exact hd);exact⟨_,y,g,hy.1,.inr ((hb.app #[y]).hb (.single (.inr ⟨.closed (c:=c) (by rw[X6 da];exact hp) (by rw[ae_ g,hy.2]),(Wo da).2 hh,KG⟩)))⟩
def jA (U V:View):Prop:=∀b,U.own b≠none->V.own b=none/\∀o,V.ah b o≠none->U.ah b o≠none
def gI (V:View):Loc->Prop
 |.cell a=>V.own a.block≠none\/V.ah a.block a.off≠none
 |.obj r=>V.own r≠none
 |_=>False
def jB (V:View):Loc->Prop
 |.cell a=>V.own a.block≠none/\V.ah a.block a.off=none
 |.obj r=>V.own r≠none
 |_=>False
theorem jB.rd{V:View}:∀{l:Loc},jB V l->gI V l
 |.cell _,h=> .inl h.1
 |.obj _,h=>h
theorem dc.others{V V' U:View}{w w':To}{es:Array Ur}(s:dc V w V' w' es)(hV:Sat V w)(h:Sat U w)(d:jA V U):Sat U w':=by
 refine⟨λb o v e=> ?_,λb x e=> ?_⟩
 ·have hc:=h.ah b o v e;have hb:=h.CZ e;cases ho:V.own b with
  |none=>
   have:=s.frame b hb ho;simp only[UA,this]at hc⊢;exact hc
  |some x=>
   have hp:=(d b (by rw[ho];simp)).2 o (by rw[e];simp);cases hi:V.ah b o with
   |none=>exact absurd hi hp
   |some v'=>
    have e1:=hV.ah b o v' hi;rw[hc]at e1;cases e1;exact s.sat.ah b o v (s.ah b o v hi)
 ·have hb:=h.lt e;have ho:V.own b=none:=by
   cases ho:V.own b with
   |none=>rfl
   |some y=>rw[(d b (by rw[ho];simp)).1]at e;cases e
  rw[s.frame b hb ho];exact h.own b x e
theorem dc.vD{V V' U:View}{w w':To}{es:Array Ur}(s:dc V w V' w' es)(h:Sat U w)(d:jA V U)(d':jA U V):jA V' U/\jA U V':=by
 have key:∀b,V'.own b≠none->V.own b≠none\/w.heap.size<=b:=by
  intro b hb;by_cases hlt:b<w.heap.size
  ·exact .inl λe=>hb (s.own b hlt e)
  ·exact .inr (by omega)
 refine⟨λb hb=> ?_,λb hb=> ?_⟩
 ·rcases key b hb with x|x
  ·refine⟨(d b x).1,λo ho=> ?_⟩;have:=(d b x).2 o ho;cases e:V.ah b o with
   |none=>exact absurd e this
   |some v=>rw[s.ah b o v e];simp
  ·have:=h.fresh x;exact⟨this.1,λo ho=>absurd (this.2 o) ho⟩
 ·have hlt:b<w.heap.size:=by
   cases e:U.own b with
   |none=>exact absurd e hb
   |some x=>exact h.lt e
  refine⟨?_,λo ho=> ?_⟩
  ·exact s.own b hlt (d' b hb).1
  ·cases e:V'.ah b o with
   |none=>exact absurd e ho
   |some v=>
    rcases s.kx b o v e with x|x|x
    ·exact(d' b hb).2 o (by rw[x];simp)
    ·exact absurd (d' b hb).1 x
    ·omega
theorem dR.vD{V V' U:View}(g:dR V V')(d:jA V U)(d':jA U V):jA V' U/\jA U V':=by
 refine⟨λb hb=> ?_,λb hb=>⟨g.own b (d' b hb).1,λo ho=> ?_⟩⟩
 ·have x:V.own b≠none:=λe=>hb (g.own b e);refine⟨(d b x).1,λo ho=> ?_⟩;cases e:V.ah b o with
  |none=>exact absurd e ((d b x).2 o ho)
  |some v=>rw[g.ah b o v e];simp
 ·cases e:V'.ah b o with
  |none=>exact absurd e ho
  |some v=>
   rcases g.kx b o v e with x|x
   ·exact(d' b hb).2 o (by rw[x];simp)
   ·exact absurd (d' b hb).1 x
theorem dR.rd{V V':View}(g:dR V V'):∀{l:Loc},gI V' l->gI V l
 |.cell a,h=>by
  rcases h with h|h
  ·exact .inl λe=>h (g.own _ e)
  ·cases e:V'.ah a.block a.off with
   |none=>exact absurd e h
   |some v=>exact(g.kx _ _ _ e).elim (λx=> .inr (by rw[x];simp)) .inl
 |.obj _,h=>λe=>h (g.own _ e)
theorem dR.wr{V V':View}(g:dR V V'):∀{l:Loc},jB V' l->jB V l
 |.cell a,h=>⟨λe=>h.1 (g.own _ e),by
  cases e:V.ah a.block a.off with
  |none=>rfl
  |some v=>exact absurd (g.ah _ _ _ e) (by rw[h.2];simp)⟩
 |.obj _,h=>λe=>h (g.own _ e)
theorem gI.low{V:View}{w:To}(h:Sat V w):∀{l:Loc},gI V l->l.low w.heap.size
 |.cell a,x=>by
  rcases x with x|x
  ·cases e:V.own a.block with
   |none=>exact absurd e x
   |some y=>exact h.lt e
  ·cases e:V.ah a.block a.off with
   |none=>exact absurd e x
   |some y=>exact h.CZ e
 |.obj r,x=>by
  cases e:V.own r with
  |none=>exact absurd e x
  |some y=>exact h.lt e
theorem dc.rd{V V':View}{w w':To}{es:Array Ur}(s:dc V w V' w' es):∀{l:Loc},gI V' l->l.low w.heap.size->gI V l
 |.cell a,h,hl=>by
  have eB:a.block<w.heap.size:=hl;rcases h with h|h
  ·exact .inl λe=>h (s.own _ eB e)
  ·cases e:V'.ah a.block a.off with
   |none=>exact absurd e h
   |some v=>
    rcases s.kx _ _ _ e with x|x|x
    ·exact .inr (by rw[x];simp)
    ·exact .inl x
    ·omega
 |.obj r,h,hl=>λe=>h (s.own _ hl e)
theorem dc.wr{V V':View}{w w':To}{es:Array Ur}(s:dc V w V' w' es):∀{l:Loc},jB V' l->l.low w.heap.size->jB V l
 |.cell a,h,hl=>⟨λe=>h.1 (s.own _ hl e),by
  cases e:V.ah a.block a.off with
  |none=>rfl
  |some v=>exact absurd (s.ah _ _ _ e) (by rw[h.2];simp)⟩
 |.obj r,h,hl=>λe=>h (s.own _ hl e)
theorem agB{U V:View}(d:jA U V)(d':jA V U)(l:Loc):(jB U l->¬gI V l/\¬jB V l)/\(gI U l->¬jB V l):=by
 cases l with
 |cell a=>
  refine⟨λh=> ?_,λh=> ?_⟩
  ·have:=d _ h.1;refine⟨λx=> ?_,λx=>x.1 this.1⟩;rcases x with x|x
   ·exact x this.1
   ·exact this.2 _ x h.2
  ·intro x;have:=d' _ x.1;rcases h with h|h
   ·exact h this.1
   ·exact this.2 _ h x.2
 |obj r=>exact⟨λh=>⟨λx=>x (d r h).1,λx=>x (d r h).1⟩,λh x=>h (d' r x).1⟩
 |_=>exact⟨λh=>h.elim,λh=>h.elim⟩
def qO (c Wg:Nat):Loc->Prop
 |.cell a=>a.block=Wg
 |.obj r=>r=c
 |_=>False
structure Core (VV:Nat->View)(N:Nat)(w:To)(t:Un)(Sh:Loc->Prop)(act:Nat->Prop)(ic n0:Nat)(W0:To):Prop where
 sat:∀i,i<N->Sat (VV i) w
 dL:∀i j,i<N->j<N->i≠j->jA (VV i) (VV j)
 ti:TI t w.heap.size N (λi l=>i<N/\gI (VV i) l/\¬Sh l) (λi l=>i<N/\jB (VV i) l/\¬Sh l) Sh act ic
 tape:w.tape=W0.tape
 os:w.os=W0.os
 out:w.output=W0.output
 old:∀b,b<n0->w.heap[b]?=W0.heap[b]?
 jc:∀i,i<N->∀b,b<n0->(VV i).own b=none
 n0:n0<=w.heap.size
def upd {α:Type}(f:Nat->α)(i:Nat)(x:α):Nat->α:=λj=>if j=i then x else f j
theorem bw{α:Type}(f:Nat->α)(i:Nat)(x:α):upd f i x i=x:=by simp[upd]
theorem bc{α:Type}(f:Nat->α){i j:Nat}(x:α)(h:j≠i):upd f i x j=f j:=by simp[upd,h]
section
variable {VV:Nat->View}{N:Nat}{w w':To}{t:Un}{Sh:Loc->Prop}{act:Nat->Prop}{ic n0 i:Nat}{W0:To}
theorem Core.draw(h:Core VV N w t Sh act ic n0 W0)(d:Nat):Core VV N (w.at d) t Sh act ic n0 W0:=
 ⟨λi hi=>⟨(h.sat i hi).ah,(h.sat i hi).own⟩,h.dL,h.ti,h.tape,h.os,h.out,h.old,h.jc,h.n0⟩
theorem Jb{V:View}{B:Nat}{e:Ur}(he:mL V B e){x:YJ}(hx:(Tq e).touch?=some x):(jB V x.loc\/(gI V x.loc/\x.write=false)\/¬x.loc.low B)/\
  (∀c,V.role.chan=some c->x.loc≠ .obj c)/\(∀Wg a,V.role.group=some Wg->x.loc=.cell a->a.block=Wg->x.kind≠ .plain):=by
 obtain⟨l,wr,s⟩:=e;cases l with
 |cell a=>
  simp only[am',Wa,Tj]at hx;subst hx;cases wr with
  |false=>
   refine⟨?_,λc _=>by simp,λWg a' hr ha hb=> ?_⟩
   ·rcases he.1 with h|h|h
    ·exact .inr (.inr (by show ¬a.block<B;omega))
    ·exact .inr (.inl ⟨.inl h,rfl⟩)
    ·exact .inr (.inl ⟨.inr h,rfl⟩)
   ·cases ha;rcases he.2 with h|h
    ·subst h;simp
    ·subst hb;exact absurd hr h
  |true=>
   refine⟨?_,λc _=>by simp,λWg a' hr ha hb=> ?_⟩
   ·rcases he.1 with h|h
    ·exact .inr (.inr (by show ¬a.block<B;omega))
    ·exact .inl h
   ·cases ha;rcases he.2 with h|h
    ·subst h;simp
    ·subst hb;exact absurd hr h
 |obj r=>
  obtain⟨⟨rfl,h2⟩,h3⟩:=he;have e1:Tq ⟨.obj r,wr,false⟩=.access ⟨.obj r,wr,false⟩:=by cases wr<;>rfl
  rw[e1]at hx;simp only[Wa,Tj]at hx;subst hx;refine⟨?_,λc hc e=> ?_,λWg a _ ha=>by cases ha⟩
  ·rcases h2 with h|h
   ·exact .inr (.inr (by show ¬r<B;omega))
   ·exact .inl h
  ·cases e;exact h3 hc
 |mark m=>
  have e1:Tq ⟨.mark m,wr,s⟩=.mark m:=by cases wr<;>cases s<;>rfl
  rw[e1]at hx;cases m<;>simp only[Wa,Tj,reduceCtorEq]at hx
  all_goals
   subst hx;refine⟨?_,λc _=>by simp,λWg a' _ _ _=>by simp⟩;have jW:mq V B _:=he;rcases jW with h|h
   ·exact .inr (.inr (by simp only[Loc.low];omega))
   ·exact .inl h
 |_=>exact he.elim
theorem Core.PU(h:Core VV N w t Sh act ic n0 W0)(l:Loc){i j:Nat}(hi:i<N)(hj:j≠i):
  ((i<N/\jB (VV i) l/\¬Sh l)->¬(j<N/\gI (VV j) l/\¬Sh l)/\¬(j<N/\jB (VV j) l/\¬Sh l))/\((i<N/\gI (VV i) l/\¬Sh l)->¬(j<N/\jB (VV j) l/\¬Sh l)):=by
 by_cases Cu:j<N
 ·have:=agB (h.dL i j hi Cu (Ne.symm hj)) (h.dL j i Cu hi hj) l;exact⟨λ⟨_,x,_⟩=>⟨λ⟨_,y,_⟩=>(this.1 x).1 y,λ⟨_,y,_⟩=>(this.1 x).2 y⟩,λ⟨_,x,_⟩ ⟨_,y,_⟩=>this.2 x y⟩
 ·exact⟨λ_=>⟨λ⟨y,_⟩=>Cu y,λ⟨y,_⟩=>Cu y⟩,λ_ ⟨y,_⟩=>Cu y⟩
theorem Core.step(h:Core VV N w t Sh act ic n0 W0)(hi:i<N){V':View}{es:Array Ur}(s:dc (VV i) w V' w' es)
  (db:∀e∈es,∀x,(Tq e).touch?=some x->Sh x.loc->(x.kind=.atomic/\act i)\/(x.kind=.said/\i=ic/\act i)) (fn:TS) (pos:String):
  Core (upd VV i V') N w' (t++Ta i fn pos es) Sh act ic n0 W0 where
 sat j hj:=by
  by_cases b9:j=i
  ·subst b9;rw[bw];exact s.sat
  ·rw[bc _ _ b9];exact s.others (h.sat i hi) (h.sat j hj) (h.dL i j hi hj (Ne.symm b9))
 dL a b ha hb gB:=by
  by_cases nd:a=i
  ·subst nd;have vP:b≠a:=Ne.symm gB;rw[bw,bc _ _ vP];exact(s.vD (h.sat b hb) (h.dL a b ha hb gB) (h.dL b a hb ha vP)).1
  ·by_cases iH:b=i
   ·subst iH;rw[bw,bc _ _ nd];exact(s.vD (h.sat a ha) (h.dL b a hb ha (Ne.symm gB)) (h.dL a b ha hb gB)).2
   ·rw[bc _ _ nd,bc _ _ iH];exact h.dL a b ha hb gB
 ti:=by
  refine h.ti.app hi (λop az=>by obtain⟨e,_,rfl⟩:=TL az;rfl) (λop az x hx=> ?_) (λop az=>by obtain⟨e,he,rfl⟩:=TL az;exact s.low e he) s.size (λop az a=> ?_)
   (λj l hj ⟨x,y⟩=>by rw[bc _ _ hj]at y;exact⟨x,y⟩) (λj l hj ⟨x,y⟩=>by rw[bc _ _ hj]at y;exact⟨x,y⟩)
   (λl ⟨x,y,z⟩ hl=>by rw[bw]at y;exact .inl ⟨x,s.rd y hl,z⟩) (λl ⟨x,y,z⟩ hl=>by rw[bw]at y;exact⟨x,s.wr y hl,z⟩)
   (λl j hj=>h.PU l hi hj) (λl j hs=>⟨λx=>x.2.2 hs,λx=>x.2.2 hs⟩) (λj l x=>x.elim (λy=>gI.low (h.sat j y.1) y.2.1) (λy=>gI.low (h.sat j y.1) y.2.1.rd))
  ·obtain⟨e,he,rfl⟩:=TL az;by_cases hs:Sh x.loc
   ·rcases db e he x hx hs with⟨a,b⟩|⟨a,b,c⟩
    ·exact .inl ⟨hs,a,b⟩
    ·exact .inr (.inl ⟨hs,a,b,c⟩)
   ·refine .inr (.inr ⟨hs,?_⟩);rcases(Jb (s.eW e he) hx).1 with x'|⟨x',y⟩|x'
    ·exact .inl ⟨hi,x',hs⟩
    ·exact .inr (.inl ⟨⟨hi,x',hs⟩,y⟩)
    ·exact .inr (.inr x')
  ·obtain⟨e,he,rfl⟩:=TL az;intro e';have hk:=s.eW e he;obtain⟨l,wr,sy⟩:=e;cases l with
   |mark m=>
    have e1:Tq ⟨.mark m,wr,sy⟩=.mark m:=(by cases wr<;>cases sy<;>rfl);simp only[e1,ag']at e';subst e';exact hk
   |cell a'=>simp[am']at e'
   |obj r=>cases wr<;>cases sy<;>simp[Tq]at e'
   |_=>exact hk
 tape:=s.tape.trans h.tape
 os:=s.os.trans h.os
 out:=s.output.trans h.out
 old b hb:=(s.frame b (Td hb h.n0) (h.jc i hi b hb)).trans (h.old b hb)
 jc j hj b hb:=by
  by_cases b9:j=i
  ·subst b9;rw[bw];exact s.own b (Td hb h.n0) (h.jc j hj b hb)
  ·rw[bc _ _ b9];exact h.jc j hj b hb
 n0:=UL h.n0 s.size
theorem Core.ghost(h:Core VV N w t Sh act ic n0 W0)(hi:i<N){V':View}(g:dR (VV i) V'):Core (upd VV i V') N w t Sh act ic n0 W0 where
 sat j hj:=by
  by_cases b9:j=i
  ·subst b9;rw[bw];exact g.sat _ (h.sat j hj)
  ·rw[bc _ _ b9];exact h.sat j hj
 dL a b ha hb gB:=by
  by_cases nd:a=i
  ·subst nd;have vP:b≠a:=Ne.symm gB;rw[bw,bc _ _ vP];exact(g.vD (h.dL a b ha hb gB) (h.dL b a hb ha vP)).1
  ·by_cases iH:b=i
   ·subst iH;rw[bw,bc _ _ nd];exact(g.vD (h.dL b a hb ha (Ne.symm gB)) (h.dL a b ha hb gB)).2
   ·rw[bc _ _ nd,bc _ _ iH];exact h.dL a b ha hb gB
 ti:=h.ti.weaken (SQ _) (λj l _ ⟨x,y,z⟩=>by
   by_cases b9:j=i
   ·subst b9;rw[bw]at y;exact .inl ⟨x,g.rd y,z⟩
   ·rw[bc _ _ b9]at y;exact .inl ⟨x,y,z⟩) (λj l _ ⟨x,y,z⟩=>by
   by_cases b9:j=i
   ·subst b9;rw[bw]at y;exact⟨x,g.wr y,z⟩
   ·rw[bc _ _ b9]at y;exact⟨x,y,z⟩) h.ti.sp
 tape:=h.tape
 os:=h.os
 out:=h.out
 old:=h.old
 jc j hj b hb:=by
  by_cases b9:j=i
  ·subst b9;rw[bw];exact g.own b (h.jc j hj b hb)
  ·rw[bc _ _ b9];exact h.jc j hj b hb
 n0:=h.n0
def mo (V' V:View):Prop:=(∀b,V'.own b=none\/V'.own b=V.own b)/\(∀b o,V'.ah b o=none\/V'.ah b o=V.ah b o)/\(∀b,V'.own b≠none->∀o,V'.ah b o=V.ah b o)
theorem mo.sat{V V':View}(l:mo V' V){w:To}(h:Sat V w):Sat V' w:=
 ⟨λb o v e=>h.ah b o v (by rcases l.2.1 b o with x|x<;>rw[x]at e;cases e;exact e),λb x e=>h.own b x (by rcases l.1 b with y|y<;>rw[y]at e;cases e;exact e)⟩
theorem mo.rd{V V':View}(k:mo V' V):∀{l:Loc},gI V' l->gI V l
 |.cell a,h=>h.imp (λx y=>by rcases k.1 a.block with z|z;exact x z;exact x (z.trans y)) (λx y=>by rcases k.2.1 a.block a.off with z|z;exact x z;exact x (z.trans y))
 |.obj r,h=>λy=>by rcases k.1 r with z|z;exact h z;exact h (z.trans y)
theorem mo.wr{V V':View}(k:mo V' V):∀{l:Loc},jB V' l->jB V l
 |.cell a,h=>⟨λy=>by rcases k.1 a.block with z|z;exact h.1 z;exact h.1 (z.trans y),by rw[<- k.2.2 _ h.1];exact h.2⟩
 |.obj r,h=>λy=>by rcases k.1 r with z|z;exact h z;exact h (z.trans y)
theorem mo.vD{V V' U:View}(k:mo V' V)(d:jA V U)(d':jA U V):jA V' U/\jA U V':=by
 refine⟨λb hb=> ?_,λb hb=>⟨?_,λo ho=> ?_⟩⟩
 ·have x:V.own b≠none:=λy=>by rcases k.1 b with z|z;exact hb z;exact hb (z.trans y)
  exact⟨(d b x).1,λo ho=>by rw[k.2.2 b hb];exact(d b x).2 o ho⟩
 ·rcases k.1 b with z|z;exact z;exact z.trans (d' b hb).1
 ·exact(d' b hb).2 o λy=>by rcases k.2.1 b o with z|z;exact ho z;exact ho (z.trans y)
theorem Core.less(h:Core VV N w t Sh act ic n0 W0)(hi:i<N){V':View}(k:mo V' (VV i)):Core (upd VV i V') N w t Sh act ic n0 W0 where
 sat j hj:=by
  by_cases b9:j=i
  ·subst b9;rw[bw];exact k.sat (h.sat j hj)
  ·rw[bc _ _ b9];exact h.sat j hj
 dL a b ha hb gB:=by
  by_cases nd:a=i
  ·subst nd;have vP:b≠a:=Ne.symm gB;rw[bw,bc _ _ vP];exact(k.vD (h.dL a b ha hb gB) (h.dL b a hb ha vP)).1
  ·by_cases iH:b=i
   ·subst iH;rw[bw,bc _ _ nd];exact(k.vD (h.dL b a hb ha (Ne.symm gB)) (h.dL a b ha hb gB)).2
   ·rw[bc _ _ nd,bc _ _ iH];exact h.dL a b ha hb gB
 ti:=h.ti.weaken (SQ _) (λj l _ ⟨x,y,z⟩=>by
   by_cases b9:j=i
   ·subst b9;rw[bw]at y;exact .inl ⟨x,k.rd y,z⟩
   ·rw[bc _ _ b9]at y;exact .inl ⟨x,y,z⟩) (λj l _ ⟨x,y,z⟩=>by
   by_cases b9:j=i
   ·subst b9;rw[bw]at y;exact⟨x,k.wr y,z⟩
   ·rw[bc _ _ b9]at y;exact⟨x,y,z⟩) h.ti.sp
 tape:=h.tape
 os:=h.os
 out:=h.out
 old:=h.old
 jc j hj b hb:=by
  by_cases b9:j=i
  ·subst b9;rw[bw];rcases k.1 b with z|z;exact z;exact z.trans (h.jc j hj b hb)
  ·rw[bc _ _ b9];exact h.jc j hj b hb
 n0:=h.n0
theorem Core.tF(h:Core VV N w t Sh act ic n0 W0)(hi:i<N){es:Array Ur}(cg:∀e∈es,∀x,(Tq e).touch?=some x->Fit w.heap.size (λi l=>i<N/\gI (VV i) l/\¬Sh l) (λi l=>i<N/\jB (VV i) l/\¬Sh l) Sh act ic i x)
  (h_:∀e∈es,(Tq e).low w.heap.size) (ry:∀e∈es,∀a,Tq e≠ .mark (.release a)) (SB:Nat->Prop) (pf:∀b,SB b->n0<=b/\∀j,j<N->(VV j).own b=none/\∀o,(VV j).ah b o=none)
  (aW:w'.heap.size=w.heap.size) (jo:∀b,¬SB b->w'.heap[b]?=w.heap[b]?) (ht:w'.tape=w.tape) (ho:w'.os=w.os) (hu:w'.output=w.output) (fn:TS) (pos:String):
  Core VV N w' (t++Ta i fn pos es) Sh act ic n0 W0 where
 sat j hj:=by
  have hs:=h.sat j hj;refine⟨λb o v e=> ?_,λb x e=> ?_⟩
  ·have hb:¬SB b:=λx=>(by rw[((pf b x).2 j hj).2 o]at e;cases e);have:=hs.ah b o v e;simp only[UA,jo b hb];exact this
  ·have hb:¬SB b:=λy=>(by rw[((pf b y).2 j hj).1]at e;cases e);rw[jo b hb];exact hs.own b x e
 dL:=h.dL
 ti:=by
  rw[aW];refine h.ti.app hi (λop az=>by obtain⟨e,_,rfl⟩:=TL az;rfl) (λop az x hx=>by obtain⟨e,he,rfl⟩:=TL az;exact cg e he x hx) (λop az=>by obtain⟨e,he,rfl⟩:=TL az;exact h_ e he) (SQ _) (λop az a=>by obtain⟨e,he,rfl⟩:=TL az;exact ry e he a)
   (λj l _ x=>x) (λj l _ x=>x) (λl x _=> .inl x) (λl x _=>x) (λl j hj=>h.PU l hi hj) (λl j hs=>⟨λx=>x.2.2 hs,λx=>x.2.2 hs⟩) (λj l x=>x.elim (λy=>gI.low (h.sat j y.1) y.2.1) (λy=>gI.low (h.sat j y.1) y.2.1.rd))
 tape:=ht.trans h.tape
 os:=ho.trans h.os
 out:=hu.trans h.out
 old b hb:=(jo b (λx=>by have:=(pf b x).1;omega)).trans (h.old b hb)
 jc:=h.jc
 n0:=by rw[aW];exact h.n0
theorem Core.quiet(h:Core VV N w t Sh act ic n0 W0)(hi:i<N){es:Array Ur}(Kt:∀e∈es,(Tq e).touch?=none/\(Tq e).low w.heap.size/\∀a,Tq e≠ .mark (.release a))(fn:TS)(pos:String):
  Core VV N w (t++Ta i fn pos es) Sh act ic n0 W0:=
 h.tF hi (λe he x hx=>by rw[(Kt e he).1]at hx;cases hx) (λe he=>(Kt e he).2.1) (λe he=>(Kt e he).2.2) (λ_=>False) (λb x=>x.elim) rfl (λ_ _=>rfl) rfl rfl rfl fn pos
theorem Core.role(h:Core VV N w t Sh act ic n0 W0)(hi:i<N){V':View}(h1:V'.ah=(VV i).ah)(h2:V'.own=(VV i).own):Core (upd VV i V') N w t Sh act ic n0 W0:=
 h.less hi ⟨λb=> .inr (by rw[h2]),λb o=> .inr (by rw[h1]),λb _ o=>by rw[h1]⟩
end
inductive GS where
 |gone (q:Nat)
 |work (j:Nat) (h:Ht) (V:View)
 |nJ (j:Nat) (h:Ht) (V V':View) (g0:SG) (v z:SO)
 |add (n:Nat)
 |load (n:Nat)
 |store (n:Nat)
 |mf (n:Nat)
 |head (k n:Nat)
 |lU (v n:Nat)
 |said (n:Nat)
 |gZ (n:Nat)
 |last (n:Nat)
 |acq (n:Nat)
 |look (n:Nat)
 |close (n:Nat)
def noView:View:={ah:=λ_ _=>none,own:=λ_=>none,deaf:=0,role:=.plain}
def GS.view (Im:cm):GS->View
 |.work _ _ V=>V
 |.nJ _ _ V _ _ _ _=>V
 |.head .. |.lU .. |.said _|.gZ _|.last _|.acq _|.look _=>{noView with ah:=Im}
 |_=>noView
def GS.cnt:GS->Nat
 |.work .. |.nJ .. |.add _=>1
 |_=>0
def GS.late:GS->Nat
 |.load _|.store _|.mf _=>1
 |_=>0
def GS.idx:GS->Option Nat
 |.work j _ _=>some j
 |.nJ j _ _ _ _ _ _=>some j
 |_=>none
def GS.shape:GS->GS
 |.gone _=> .gone 0
 |.work j _ _=> .work j .z noView
 |.nJ j _ _ _ _ _ _=> .work j .z noView
 |.add _=> .add 0
 |.load _=> .load 0
 |.store _=> .store 0
 |.mf _=> .mf 0
 |.head k _=> .head k 0
 |.lU v _=> .lU v 0
 |.said _=> .said 0
 |.gZ _=> .gZ 0
 |.last _=> .last 0
 |.acq _=> .acq 0
 |.look _=> .look 0
 |.close _=> .close 0
theorem GS.mY:∀K:GS,K.shape.cnt=K.cnt:=by intro K;cases K<;>rfl
theorem GS.ma:∀K:GS,K.shape.late=K.late:=by intro K;cases K<;>rfl
theorem GS.Gt:∀K:GS,K.shape.idx=K.idx:=by intro K;cases K<;>rfl
def GS.mX:GS->Bool
 |.head .. |.lU .. |.said _|.gZ _|.last _|.acq _|.look _|.close _=>true
 |_=>false
theorem GS.Pe:∀K:GS,K.shape.mX=K.mX:=by intro K;cases K<;>rfl
def GS.cZ:GS->yV
 |.gone q=>⟨0,.z,q⟩
 |.work _ h V=>⟨11+2* (match V.role with|.work _ _ S=>S.length|_=>0),h,0⟩
 |.nJ _ h V _ _ _ _=>⟨10+2* (match V.role with|.work _ _ S=>S.length|_=>0),h,0⟩
 |.add n=>⟨8,.z,n⟩
 |.load n=>⟨7,.z,n⟩
 |.store n=>⟨6,.z,n⟩
 |.mf n=>⟨5,.z,n⟩
 |.head k n=>⟨100+3* k,.z,n⟩
 |.lU v n=>⟨102+3* v,.z,n⟩
 |.said n=>⟨60,.z,n⟩
 |.gZ n=>⟨50,.z,n⟩
 |.last n=>⟨40,.z,n⟩
 |.acq n=>⟨30,.z,n⟩
 |.look n=>⟨20,.z,n⟩
 |.close n=>⟨15,.z,n⟩
section
variable (P:SI)(c Wg:Nat)(Im:cm)(Ss:List (List Spec))
def D4 (v d:Nat)(g:SG):Prop:=d=1/\g.status=.running/\
 (∃g',(∀w,WgAt P Wg w ((v:Int)* KK) 0->stepG P false g w=.go g' (w.setCell (dT Wg) (.int .u64 ((v:Int)* KK+1))) #[iW (dT Wg),kI (dT Wg)])/\∃n,gX P Wg (D5 P Im c Wg) n 1 g')/\
 (∀u:Nat,u<v->∃g',(∀w,WgAt P Wg w ((u:Int)* KK) 0->stepG P false g w=.go g' w #[iW (dT Wg)])/\∃n,cO P (ez P Im c Wg v) n 1 g')
theorem ez.succ{k d:Nat}{g:SG}(h:ez P Im c Wg (k+1) d g):d=1/\g.status=.running/\∀v:Nat,v<=k->v<=4->∃g',(∀w,WgAt P Wg w ((v:Int)* KK) 0->stepG P false g w=.go g' w #[iW (dT Wg)])/\
  (v=0->∃n,gX P Wg (tL P Im c Wg) n 1 g')/\(v≠0->∃n,cO P (D4 P c Wg Im v) n 1 g'):=by
 rw[ez]at h;exact h
theorem ez.zero{d:Nat}{g:SG}(h:ez P Im c Wg 0 d g):False:=by
 rw[ez]at h;exact h
def GS.is:GS->Nat->SG->Prop
 |.gone q,d,g=>Y5 P q d g
 |.work j h V,d,g=>d=V.deaf/\lg P h V g/\∃S,Ss[j]?=some S/\V.role=.work c Wg S
 |.nJ j h V V' g0 v z,d,g=>d=0/\V.deaf=0/\g=parked g0 #[scase c v z] .send/\lg P h V' (T7 g0 undef)/\∃sp S,∃B:Nat->Bool,Ss[j]?=some (sp::S)/\V.role=.work c Wg (sp::S)/\
   sp v V.ah (λb=>if B b then V.own b else none)/\V'={V with own:=λb=>if B b then none else V.own b,role:=.work c Wg S}
 |.add n,d,g=>cO P (A7 P Wg) n d g
 |.load n,d,g=>cO P (D7 P Wg) n d g
 |.store n,d,g=>cO P (D9 P Wg) n d g
 |.mf n,d,g=>cO P (D8 P Wg) n d g
 |.head k n,d,g=>cO P (ez P Im c Wg k) n d g
 |.lU v n,d,g=>cO P (D4 P c Wg Im v) n d g
 |.said n,d,g=>gX P Wg (D5 P Im c Wg) n d g
 |.gZ n,d,g=>cO P (D6 P Im c Wg) n d g\/(n=0/\∃g1,g={g1 with status:=.blocked}/\D6 P Im c Wg d g1)
 |.last n,d,g=>cO P (H5 P Im c Wg) n d g
 |.acq n,d,g=>gX P Wg (tL P Im c Wg) n d g
 |.look n,d,g=>cO P (H6 P Im c) n d g
 |.close n,d,g=>cO P (H2 P c) n d g
end
theorem cO.running{P:SI}{Stop:Nat->SG->Prop}(hs:∀d g,Stop d g->g.status=.running):∀{n d:Nat}{g:SG},cO P Stop n d g->g.status=.running
 |0,_,_,h=>hs _ _ h
 |_+1,_,_,h=>h.elim (hs _ _) (λx=>x.1)
theorem gX.running{P:SI}{Wg:Nat}{Stop:Nat->SG->Prop}(hs:∀d g,Stop d g->g.status=.running):∀{n d:Nat}{g:SG},gX P Wg Stop n d g->g.status=.running
 |0,_,_,h=>hs _ _ h
 |_+1,_,_,h=>h.elim (hs _ _) (λx=>x.1)
theorem Rn{P:SI}{Im:cm}{c Wg:Nat}:∀{k d:Nat}{g:SG},ez P Im c Wg k d g->g.status=.running
 |0,_,_,h=>(ez.zero P c Wg Im h).elim
 |_+1,_,_,h=>(ez.succ P c Wg Im h).2.1
theorem GS.runs{P:SI}{c Wg:Nat}{Im:cm}{Ss:List (List Spec)}{K:GS}{d:Nat}{g:SG}(h:K.is P c Wg Im Ss d g):
  g.status=.running\/g.status=.finished/\(∃q,K=.gone q)\/(∃j h V V' g0 v z,K=.nJ j h V V' g0 v z)\/((∃n,K=.gZ n)/\g.status=.blocked/\g.offers=none):=by
 cases K with
 |gone q=>exact(ZD h).elim .inl (λx=> .inr (.inl ⟨x,q,rfl⟩))
 |work j h' V=>exact .inl h.2.1.running
 |nJ j h' V V' g0 v z=>exact .inr (.inr (.inl ⟨j,h',V,V',g0,v,z,rfl⟩))
 |add n=>exact .inl (cO.running (λd g x=>x.2.1) h)
 |load n=>exact .inl (cO.running (λd g x=>x.2.1) h)
 |store n=>exact .inl (cO.running (λd g x=>x.2.1) h)
 |mf n=>exact .inl (cO.running (λd g x=>x.2.1) h)
 |head k n=>exact .inl (cO.running (λd g x=>Rn x) h)
 |lU v n=>exact .inl (cO.running (λd g x=>x.2.1) h)
 |said n=>exact .inl (gX.running (λd g x=>x.2.1) h)
 |gZ n=>
  rcases h with h|⟨_,g1,rfl,h⟩
  ·exact .inl (cO.running (λd g x=>x.2.1) h)
  ·exact .inr (.inr (.inr ⟨⟨n,rfl⟩,rfl,h.2.2.1⟩))
 |last n=>exact .inl (cO.running (λd g x=>x.2.1) h)
 |acq n=>exact .inl (gX.running (λd g x=>x.2.1) h)
 |look n=>exact .inl (cO.running (λd g x=>x.2.1) h)
 |close n=>exact .inl (cO.running (λd g x=>x.2.1) h)
structure Rel (Wg:Nat)(t:Un)(i r:Nat):Prop where
 act:t.act? r=some (.mark (.releaseMerge (dT Wg)))
 g:t.g? r=some i
 heard:t.heard r
theorem Rel.app{Wg:Nat}{t u:Un}{i r:Nat}(h:Rel Wg t i r):Rel Wg (t++u) i r:=
 have hr:=VZ h.act
 ⟨by rw[X6 hr];exact h.act,by rw[g?_old hr];exact h.g,(Wo hr).2 h.heard⟩
inductive ec where
 |early
 |got
 |shut (p:Nat)
 deriving DecidableEq
def wO (Wg:Nat)(t:Un)(K:Nat->GS)(ic:Nat):ec->Nat->Prop
 |.early,idx=>∃i,t.g? idx=some i/\0<i/\(((K i).idx.isSome=true)\/(i=ic)\/∃r,Rel Wg t i r/\idx<=r)
 |.got,idx=>Wi t ic idx
 |.shut p,idx=>Before t idx p
def Rest (Wg:Nat)(t:Un)(K:Nat->GS)(ic:Nat)(st:Option ec):Prop:=
 ∀idx a,touchAt t idx=some a->a.loc.isMemory=true->Wi t 0 idx\/(a.kind=.atomic/\¬t.heard idx)\/∃s,st=some s/\wO Wg t K ic s idx
def Mode (P:SI)(c Wg N:Nat)(w:To)(gs:Array SG)(t:Un)(K:Nat->GS)(ic:Nat)(s:ec):Prop:=
 let cn:Nat:=sumTo N λi=>(K i).cnt;let la:Nat:=sumTo N λi=>(K i).late;let opn:=∃n,w.heap[c]?=some (.chan 0 #[] false n n false)
 (opn/\s=.early/\la=0/\cn<=4/\WgAt P Wg w ((cn:Int)* KK) 0/\((∃k,(K ic).shape=.head k 0/\cn<k)\/(∃v,(K ic).shape=.lU v 0/\cn<=v/\0<v)))\/
 (opn/\s=.early/\la=0/\1<=cn/\cn<=4/\WgAt P Wg w ((cn:Int)* KK+1) 0/\((K ic).shape=.said 0\/(K ic).shape=.gZ 0))\/
 (opn/\s=.early/\la=1/\cn=0/\((K ic).shape=.said 0\/(K ic).shape=.gZ 0)/\(∀i,i<N->((K i).shape=.load 0\/(K i).shape=.store 0)->WgAt P Wg w 1 0)/\(∀i,i<N->(K i).shape=.mf 0->WgAt P Wg w 0 0))\/
 (opn/\s=.early/\la=0/\cn=0/\WgAt P Wg w 0 1/\(∀g,gs[ic]?=some g->g.status=.running)/\((K ic).shape=.said 0\/(K ic).shape=.gZ 0))\/
 (opn/\s=.early/\la=0/\cn=0/\WgAt P Wg w 0 0/\((K ic).shape=.last 0\/(K ic).shape=.acq 0))\/
 (opn/\s=.got/\la=0/\cn=0/\((K ic).shape=.look 0\/(K ic).shape=.close 0))\/
 ((∃p n,s=.shut p/\t.act? p=some (.close c)/\t.heard p/\w.heap[c]?=some (.chan 0 #[] true n n false))/\la=0/\cn=0/\(K ic).shape=.gone 0)
def j9 (gs:Array SG)(g:SG):Prop:=∃g0,gs[0]?=some g0/\g0.status=.running/\g0.frame=g.frame/\g0.callers=g.callers/\g0.dying=g.dying
def nP (gs:Array SG)(g:SG)(c:Nat):Prop:=∃g0 z,gs[0]?=some (parked g0 #[rcase c z] (.recv true))/\g0.frame=g.frame/\g0.callers=g.callers/\g0.dying=g.dying
structure Phase where
 c:Nat
 Wg:Nat
 Ss:List (List Spec)
 recv:Bool
def bE (V:View)(Im:cm)(K:Nat->GS):Nat->View:=λi=>if i=0 then V else(K i).view Im
structure Inv (P:SI)(n0:Nat)(W0:To)(V:View)(gs:Array SG)(w:To)(t:Un)(K:Nat->GS)(Im:cm)(ic:Nat)(ph:Option Phase)(st:Option ec):Prop where
 pos:0<gs.size
 k0:K 0=.gone 0
 d0:UT t 0=V.deaf
 «is» : ∀ i g, 0 < i -> gs[i]? = some g -> match ph with
  |some p=>(K i).is P p.c p.Wg Im p.Ss (UT t i) g
  |none=>∃q,K i=.gone q/\Y5 P q (UT t i) g
 core:Core (bE V Im K) gs.size w t (match ph with|some p=>qO p.c p.Wg|none=>λ_=>False)
  (λi=>match ph with|some p=>if p.recv then 0<i/\i<gs.size/\((K i).idx.isSome=true\/i=ic\/(K i).cnt=1\/(K i).late=1)else i=0\/(i<gs.size/\(K i).idx.isSome=true)|none=>False) ic n0 W0
 rest:Rest (match ph with|some p=>p.Wg|none=>0) t K ic st
 phase:match ph with
  |none=>st=none
  |some p=>n0<=p.c/\n0<=p.Wg/\p.c≠p.Wg/\p.c<w.heap.size/\p.Wg<w.heap.size/\p.Ss.length<=4/\
   (∀i,0<i->((K i).view Im).own p.c=none/\(∀o,((K i).view Im).ah p.c o=none)/\((K i).view Im).own p.Wg=none/\(∀o,((K i).view Im).ah p.Wg o=none)/\((K i).mX=true->i=ic))/\
   (∀i i' j,0<i->i<gs.size->0<i'->i'<gs.size->(K i).idx=some j->(K i').idx=some j->i=i')/\
   (∀j S,p.Ss[j]?=some S->S≠[]->∃i,0<i/\i<gs.size/\(K i).idx=some j)/\
   (if p.recv then(V.own p.c=none/\(∀o,V.ah p.c o=none)/\V.own p.Wg=none/\(∀o,V.ah p.Wg o=none))/\0<ic/\ic<gs.size/\(∃s,st=some s/\Mode P p.c p.Wg gs.size w gs t K ic s)
    else V.own p.c=some (.chan 0 #[] false 0 0 false)/\ic=0/\st=some .early/\(∀i,0<i->i<gs.size->(K i).idx.isSome=true\/∃q,K i=.gone q)/\(∀S∈p.Ss,S≠[])/\(sumTo gs.size λi=>(K i).cnt)=p.Ss.length)
theorem AT(K:Nat->GS)(k:GS)(φ:GS->Nat){i N:Nat}(hi:i<N):sumTo N (λa=>φ (upd K i k a))+φ (K i)=sumTo N (λa=>φ (K a))+φ k:=sumTo_upd K k φ hi
theorem kZ(K:Nat->GS)(k:GS)(φ:GS->Nat){i N:Nat}(h:φ k=φ (K i)):sumTo N (λa=>φ (upd K i k a))=sumTo N (λa=>φ (K a)):=
 Vl λa _=>by by_cases ha:a=i;subst ha;rw[bw,h];rw[bc _ _ ha]
theorem Core.Bx{VV:Nat->View}{N:Nat}{w:To}{t:Un}{Sh:Loc->Prop}{act act':Nat->Prop}{ic n0:Nat}{W0:To}(h:Core VV N w t Sh act ic n0 W0)(ha:∀i,act' i->act i):Core VV N w t Sh act' ic n0 W0:=
 ⟨h.sat,h.dL,h.ti.weaken (SQ _) (λ_ _ _ x=> .inl x) (λ_ _ _ x=>x) (λidx a x y=>⟨λhp i hi=>(h.ti.sp idx a x y).1 hp i (ha i hi),(h.ti.sp idx a x y).2⟩),h.tape,h.os,h.out,h.old,h.jc,h.n0⟩
theorem Core.congr{VV El:Nat->View}{N:Nat}{w:To}{t:Un}{Sh:Loc->Prop}{act:Nat->Prop}{ic n0:Nat}{W0:To}(h:Core VV N w t Sh act ic n0 W0)(e:∀i,i<N->El i=VV i):Core El N w t Sh act ic n0 W0:=
 ⟨λi hi=>by rw[e i hi];exact h.sat i hi,λi j hi hj jY=>by rw[e i hi,e j hj];exact h.dL i j hi hj jY,
  h.ti.weaken (SQ _) (λi l hi ⟨x,y,z⟩=> .inl ⟨x,by rw[<- e i hi];exact y,z⟩) (λi l hi ⟨x,y,z⟩=>⟨x,by rw[<- e i hi];exact y,z⟩) h.ti.sp,h.tape,h.os,h.out,h.old,λi hi b hb=>by rw[e i hi];exact h.jc i hi b hb,h.n0⟩
theorem NN(V:View)(Im:cm)(K:Nat->GS){i:Nat}(hi:0<i)(k:GS):bE V Im (upd K i k)=upd (bE V Im K) i (k.view Im):=by
 funext j;by_cases hj:j=i
 ·subst hj;rw[bw];simp[bE,bw];omega
 ·rw[bc _ _ hj];simp[bE,bc _ _ hj]
theorem aao{P:SI}{c Wg:Nat}{Im:cm}{Ss:List (List Spec)}{k:GS}{d:Nat}{x g g':SG}{w':To}(ho:(∃n,w'.heap[c]?=some (.chan 0 #[] false n n false))\/k.idx=none) (h:k.is P c Wg Im Ss d x):
  k.is P c Wg Im Ss d (woken P g g' w' x):=by
 rcases GS.runs h with hr|⟨hf,q,rfl⟩|⟨j,h',V,V',g0,v,z,rfl⟩|⟨⟨n,rfl⟩,hb,hof⟩
 ·rw[Yl hr];exact h
 ·rw[woken_quitsD h];exact h
 ·rcases ho with⟨n,ho⟩|ho
  ·obtain⟨h1,h2,rfl,h4⟩:=h;rw[woken_send_open _ _ ho];exact⟨h1,h2,rfl,h4⟩
  ·cases ho
 ·rcases h with h|⟨hn,g1,rfl,h⟩
  ·rw[cO.running (λd g x=>x.2.1) h]at hb;cases hb
  ·unfold woken;split
   ·subst hn;refine .inl ?_;have e:({g1 with status:=atM}:SG).again w'=g1:=by
     obtain⟨f,cs,s,dy,o⟩:=g1;have h2:=h.2.1;have h3:=h.2.2.1;simp only at h2 h3;subst h2 h3;rfl
    rw[e];exact h
   ·exact .inr ⟨hn,g1,rfl,h⟩
theorem Mv{P:SI}{gs:Array SG}{g:SG}{w':To}{i:Nat}{gi bA:SG}(hi:0<i)(h:j9 gs g):j9 ((gs.map (woken P gi bA w')).setIfInBounds i bA) g:=by
 obtain⟨g0,h0,h1,h2⟩:=h;exact⟨g0,by rw[SU (by omega),WA,h0];simp[Yl h1],h1,h2⟩
theorem MO{P:SI}{gs:Array SG}{g:SG}{w':To}{i c:Nat}{gi bA:SG}(hi:0<i)(h:nP gs g c)(ho:∃n,w'.heap[c]?=some (.chan 0 #[] false n n false)):nP ((gs.map (woken P gi bA w')).setIfInBounds i bA) g c:=by
 obtain⟨g0,z,h0,h2⟩:=h;obtain⟨n,ho⟩:=ho;exact⟨g0,z,by rw[SU (by omega),WA,h0];simp[woken_recv_open _ _ ho],h2⟩
theorem anS{P:SI}{gs:Array SG}{g:SG}{w':To}{i c:Nat}{gi bA:SG}(hi:0<i)(h:nP gs g c)(hw:mayWake P gi=true)(hs:bA.status=.running\/bA.status=.finished)(ho:∃n,w'.heap[c]?=some (.chan 0 #[] true n n false)):
  j9 ((gs.map (woken P gi bA w')).setIfInBounds i bA) g:=by
 obtain⟨g0,z,h0,h2⟩:=h;obtain⟨n,ho⟩:=ho;refine⟨{parked g0 #[rcase c z] (.recv true)with status:=.running},?_,rfl,h2⟩;rw[SU (by omega),WA,h0];have:woken P gi bA w' (parked g0 #[rcase c z] (.recv true))={parked g0 #[rcase c z] (.recv true)with status:=.running}:=by
  unfold woken;have hc:(mayWake P gi&&bA.status != .blocked&&bA.status != .waiting)=true:=by rcases hs with hs|hs<;>simp[hw,hs]
  rw[if_pos hc,again_recv_closed ho]
 simp[this]
def yT (w:To)(c:Nat):Prop:=∃n,w.heap[c]?=some (.chan 0 #[] false n n false)
def If (gs gs':Array SG)(w w':To)(g:SG)(c:Nat):Prop:=(j9 gs g->j9 gs' g)/\(nP gs g c->yT w c->j9 gs' g\/(nP gs' g c/\yT w' c))
def Calm (gs:Array SG):Prop:=∀i x,0<i->gs[i]?=some x->x.status=.blocked->x.offers=none
def flag (gs:Array SG)(ic:Nat):Nat:=if(gs[ic]?).any (·.status== .running)then 1 else 0
def iU (p:Phase)(N ic:Nat)(K:Nat->GS)(i:Nat):Prop:=if p.recv then 0<i/\i<N/\((K i).idx.isSome=true\/i=ic\/(K i).cnt=1\/(K i).late=1)else i=0\/(i<N/\(K i).idx.isSome=true)
section
variable {P:SI}{n0:Nat}{W0:To}{V:View}{gs:Array SG}{w:To}{t:Un}{K:Nat->GS}{Im:cm}{ic:Nat}{ph:Option Phase}{st:Option ec}
structure gp (P:SI)(n0:Nat)(W0:To)(V:View)(gs:Array SG)(w:To)(sl:Option (Nat×Nat))(t:Un)(K:Nat->GS)(Im:cm)(ic:Nat)(ph:Option Phase)(st:Option ec)(i:Nat):Prop where
 intro::
 atK:∃gs' w' ops K' st',runT P (crowd gs w sl) i=(.next (crowd gs' w' sl),ops)/\gs'.size=gs.size/\Inv P n0 W0 V gs' w' (t++ops) K' Im ic ph st'/\(∀g c,(∀p,ph=some p->p.c=c)->If gs gs' w w' g c)/\(∀g c,nP gs g c->Calm gs->Calm gs')/\
  Bg gs.size ((λj=>(K' j).cZ),flag gs' ic) ((λj=>(K j).cZ),flag gs ic)
theorem getElem?_next{gi bA:SG}{w':To}{i j:Nat}{x:SG}(hlt:i<gs.size)(h:((gs.map (woken P gi bA w')).setIfInBounds i bA)[j]?=some x):(j=i/\x=bA)\/(j≠i/\∃y,gs[j]?=some y/\x=woken P gi bA w' y):=by
 by_cases b9:j=i
 ·subst b9;rw[S_ (by simpa using hlt)]at h;exact .inl ⟨rfl,(Wj h).symm⟩
 ·rw[SU (Ne.symm b9),WA]at h;obtain⟨y,hy,rfl⟩:=Tp.1 h;exact .inr ⟨b9,y,hy,rfl⟩
theorem Rest.app{Wg:Nat}{t u:Un}{K K':Nat->GS}{ic:Nat}{s s':ec}(h:Rest Wg t K ic (some s))(hold:∀idx a,touchAt t idx=some a->wO Wg t K ic s idx->Wi (t++u) 0 idx\/wO Wg (t++u) K' ic s' idx)
  (v7:∀idx a,t.size<=idx->(∃op∈u,(t++u)[idx]?=some op/\op.act.touch?=some a)->a.loc.isMemory=true->Wi (t++u) 0 idx\/(a.kind=.atomic/\¬(t++u).heard idx)\/wO Wg (t++u) K' ic s' idx):Rest Wg (t++u) K' ic (some s'):=by
 intro idx a ha hm;rcases AU ha with fX|⟨hi,hx⟩
 ·obtain⟨op,az,_⟩:=UU fX;rcases h idx a fX hm with x|⟨x,y⟩|⟨s1,dE,x⟩
  ·exact .inl (x.app u)
  ·exact .inr (.inl ⟨x,λz=>y ((Wo (TG az)).1 z)⟩)
  ·cases dE;exact(hold idx a fX x).imp id λy=> .inr ⟨s',rfl,y⟩
 ·exact(v7 idx a hi hx hm).imp id (λy=>y.imp id λz=>⟨s',rfl,z⟩)
theorem wO.app{Wg:Nat}{t u:Un}{K K':Nat->GS}{ic idx:Nat}{s:ec}(cX:idx<t.size)(h:wO Wg t K ic s idx)(hK:∀i,t.g? idx=some i->0<i->(K i).idx.isSome=true->(K' i).idx.isSome=true\/∃r,Rel Wg (t++u) i r/\idx<=r):wO Wg (t++u) K' ic s idx:=by
 cases s with
 |early=>
  obtain⟨i,hg,h0,hx⟩:=h;refine⟨i,by rw[g?_old cX];exact hg,h0,?_⟩;rcases hx with x|x|⟨r,x,y⟩
  ·exact(hK i hg h0 x).imp id .inr
  ·exact .inr (.inl x)
  ·exact .inr (.inr ⟨r,x.app,y⟩)
 |got=>exact Knows.app u h
 |shut p=>exact Before.app u h
end
def rT (ph:Option Phase):Loc->Prop:=match ph with|some p=>qO p.c p.Wg|none=>λ_=>False
def mR (ph:Option Phase)(N ic:Nat)(K:Nat->GS):Nat->Prop:=λi=>match ph with|some p=>iU p N ic K i|none=>False
def AY (ph:Option Phase):Nat:=match ph with|some p=>p.Wg|none=>0
section
variable {P:SI}{n0:Nat}{W0:To}{V:View}{gs:Array SG}{w w':To}{sl:Option (Nat×Nat)}{t:Un}{K:Nat->GS}{Im:cm}{ic:Nat}{ph:Option Phase}{st st':Option ec}
def yU (P:SI)(n0:Nat)(V:View)(gs:Array SG)(w:To)(t:Un)(K:Nat->GS)(Im:cm)(ic:Nat)(ph:Option Phase)(st:Option ec):Prop:=match ph with
  |none=>st=none
  |some p=>n0<=p.c/\n0<=p.Wg/\p.c≠p.Wg/\p.c<w.heap.size/\p.Wg<w.heap.size/\p.Ss.length<=4/\
   (∀i,0<i->((K i).view Im).own p.c=none/\(∀o,((K i).view Im).ah p.c o=none)/\((K i).view Im).own p.Wg=none/\(∀o,((K i).view Im).ah p.Wg o=none)/\((K i).mX=true->i=ic))/\
   (∀i i' j,0<i->i<gs.size->0<i'->i'<gs.size->(K i).idx=some j->(K i').idx=some j->i=i')/\
   (∀j S,p.Ss[j]?=some S->S≠[]->∃i,0<i/\i<gs.size/\(K i).idx=some j)/\
   (if p.recv then(V.own p.c=none/\(∀o,V.ah p.c o=none)/\V.own p.Wg=none/\(∀o,V.ah p.Wg o=none))/\0<ic/\ic<gs.size/\(∃s,st=some s/\Mode P p.c p.Wg gs.size w gs t K ic s)
    else V.own p.c=some (.chan 0 #[] false 0 0 false)/\ic=0/\st=some .early/\(∀i,0<i->i<gs.size->(K i).idx.isSome=true\/∃q,K i=.gone q)/\(∀S∈p.Ss,S≠[])/\(sumTo gs.size λi=>(K i).cnt)=p.Ss.length)
def A_ (P:SI)(Im:cm)(ph:Option Phase)(k:GS)(d:Nat)(g:SG):Prop:=match ph with
  |some p=>k.is P p.c p.Wg Im p.Ss d g
  |none=>∃q,k=.gone q/\Y5 P q d g
theorem Inv.mk'(pos:0<gs.size)(k0:K 0=.gone 0)(d0:UT t 0=V.deaf)(dg:∀i g,0<i->gs[i]?=some g->A_ P Im ph (K i) (UT t i) g)
  (hc:Core (bE V Im K) gs.size w t (rT ph) (mR ph gs.size ic K) ic n0 W0) (hr:Rest (AY ph) t K ic st) (hp:yU P n0 V gs w t K Im ic ph st):Inv P n0 W0 V gs w t K Im ic ph st:=by
 cases ph with
 |none=>exact⟨pos,k0,d0,dg,hc,hr,hp⟩
 |some p=>exact⟨pos,k0,d0,dg,hc,hr,hp⟩
theorem Inv.out(h:Inv P n0 W0 V gs w t K Im ic ph st):(∀i g,0<i->gs[i]?=some g->A_ P Im ph (K i) (UT t i) g)/\Core (bE V Im K) gs.size w t (rT ph) (mR ph gs.size ic K) ic n0 W0/\Rest (AY ph) t K ic st/\yU P n0 V gs w t K Im ic ph st:=by
 cases ph with
 |none=>exact⟨h.is,h.core,h.rest,h.phase⟩
 |some p=>exact⟨h.is,h.core,h.rest,h.phase⟩
theorem af7{y:SG}(hy:y.status=.blocked->y.offers=none):(y.again w').status=.blocked->(y.again w').offers=none:=by
 obtain⟨f,cs,s,d,o⟩:=y;unfold YT;cases s<;>cases o<;>simp_all
theorem af8{g g' y:SG}(hy:y.status=.blocked->y.offers=none)(hb:(woken P g g' w' y).status=.blocked):(woken P g g' w' y).offers=none:=by
 unfold woken at hb⊢;split
 ·rename_i hh;rw[if_pos hh]at hb;exact af7 hy hb
 ·rename_i hh;rw[if_neg hh]at hb;exact hy hb
theorem Inv.aa3(h:Inv P n0 W0 V gs w t K Im ic ph st){i:Nat}{gi bA:SG}{es:Array Ur}{k':GS}(hi:0<i)(aM:gs[i]?=some gi)(aR:stepG P false gi w=.go bA w' es)
  (hk:A_ P Im ph k' (deafBehind (UT t i) es) bA) (sN:bA.status=.blocked->bA.offers=none) (gD:∀p,ph=some p->(∃n,w'.heap[p.c]?=some (.chan 0 #[] false n n false))\/(∀j,0<j->j<gs.size->j≠i->(K j).idx=none))
  (xG:Core (bE V Im (upd K i k')) gs.size w' (t++Ta i gi.frame.fn gi.frame.place es) (rT ph) (mR ph gs.size ic (upd K i k')) ic n0 W0)
  (lA:Rest (AY ph) (t++Ta i gi.frame.fn gi.frame.place es) (upd K i k') ic st')
  (CD:yU P n0 V ((gs.map (woken P gi bA w')).setIfInBounds i bA) w' (t++Ta i gi.frame.fn gi.frame.place es) (upd K i k') Im ic ph st')
  (jr:Bg gs.size ((λj=>(upd K i k' j).cZ),flag ((gs.map (woken P gi bA w')).setIfInBounds i bA) ic) ((λj=>(K j).cZ),flag gs ic))
  (o1:∀g c,(∀p,ph=some p->p.c=c)->If gs ((gs.map (woken P gi bA w')).setIfInBounds i bA) w w' g c):gp P n0 W0 V gs w sl t K Im ic ph st i:=by
 have hlt:i<gs.size:=(SR.1 aM).1;have eJ:(i==0)=false:=by simp;omega
 have aW:((gs.map (woken P gi bA w')).setIfInBounds i bA).size=gs.size:=by simp
 have CM:∀op∈Ta i gi.frame.fn gi.frame.place es,op.g=i:=λop az=>by obtain⟨e,_,rfl⟩:=TL az;rfl
 refine⟨_,w',_,upd K i k',st',runT_crowd_go (P:=P) (sl:=sl) aM (by rw[eJ];exact aR),aW,?_,o1,?_,jr⟩
 rotate_left
 ·intro g c _ hc j x hj hx hb;rcases getElem?_next hlt hx with⟨_,rfl⟩|⟨_,y,hy,rfl⟩
  ·exact sN hb
  ·exact af8 (hc j y hj hy) hb
 refine Inv.mk' (by rw[aW];exact h.pos) (by rw[bc _ _ (by omega)];exact h.k0) ?_ (λj x hj hx=> ?_) (by rw[aW];exact xG) lA CD
 ·rw[atO t (g:=0) (g':=i) (by omega) _ CM];exact h.d0
 ·rcases getElem?_next hlt hx with⟨rfl,rfl⟩|⟨b9,y,hy,rfl⟩
  ·rw[bw,Deaf_own];exact hk
  ·rw[bc _ _ b9,atO t (g:=j) (g':=i) (Ne.symm b9) _ CM];have CW:=h.out.1 j y hj hy;have KP:j<gs.size:=(SR.1 hy).1;cases ph with
   |none=>
    obtain⟨q,hq,pk⟩:=CW;exact⟨q,hq,by rw[woken_quitsD pk];exact pk⟩
   |some p=>
    refine aao ?_ CW;rcases gD p rfl with x|x
    ·exact .inl x
    ·exact .inr (x j hj KP b9)
theorem Inv.next(h:Inv P n0 W0 V gs w t K Im ic ph st){i:Nat}{gi bA:SG}{es:Array Ur}{k':GS}(hi:0<i)(aM:gs[i]?=some gi)(aR:stepG P false gi w=.go bA w' es)
  (hk:A_ P Im ph k' (deafBehind (UT t i) es) bA) (sN:bA.status=.blocked->bA.offers=none) (gD:∀p,ph=some p->(∃n,w'.heap[p.c]?=some (.chan 0 #[] false n n false))\/(∀j,0<j->j<gs.size->j≠i->(K j).idx=none))
  (xG:Core (bE V Im (upd K i k')) gs.size w' (t++Ta i gi.frame.fn gi.frame.place es) (rT ph) (mR ph gs.size ic (upd K i k')) ic n0 W0)
  (lA:Rest (AY ph) (t++Ta i gi.frame.fn gi.frame.place es) (upd K i k') ic st')
  (CD:yU P n0 V ((gs.map (woken P gi bA w')).setIfInBounds i bA) w' (t++Ta i gi.frame.fn gi.frame.place es) (upd K i k') Im ic ph st')
  (uB:qL k'.cZ (K i).cZ)
  (o1:∀g c,(∀p,ph=some p->p.c=c)->If gs ((gs.map (woken P gi bA w')).setIfInBounds i bA) w w' g c):gp P n0 W0 V gs w sl t K Im ic ph st i:=
 h.aa3 hi aM aR hk sN gD xG lA CD (.inl ⟨i,(SR.1 aM).1,by simpa only[bw]using uB,λj hj=>by show (upd K i k' j).cZ=(K j).cZ;rw[bc _ _ hj]⟩) o1
theorem am6{B:Nat}{e:Ur}(h:e.mute=true):(Tq e).touch?=none/\(Tq e).low B/\∀a,Tq e≠ .mark (.release a):=by
 refine⟨ZS h,low_mute h B,λa=> ?_⟩;obtain⟨l,wr,sy⟩:=e;cases l with
 |mark m=>cases m<;>cases wr<;>cases sy<;>simp_all[Tq,WC]
 |_=>simp[WC]at h
theorem Mode.keep{c Wg N:Nat}{gs':Array SG}{u:Un}{K':Nat->GS}{s:ec}(h:Mode P c Wg N w gs t K ic s)(hs:∀j,(K' j).shape=(K j).shape)(hc:w'.heap[c]?=w.heap[c]?)(hW:w'.heap[Wg]?=w.heap[Wg]?)
  (hr:(∀g,gs[ic]?=some g->g.status=.running)->∀g,gs'[ic]?=some g->g.status=.running):Mode P c Wg N w' gs' (t++u) K' ic s:=by
 have e1:sumTo N (λi=>(K' i).cnt)=sumTo N λi=>(K i).cnt:=Vl λi _=>by rw[<- GS.mY,hs i,GS.mY]
 have e2:sumTo N (λi=>(K' i).late)=sumTo N λi=>(K i).late:=Vl λi _=>by rw[<- GS.ma,hs i,GS.ma]
 have e3:∀st sm,WgAt P Wg w' st sm=WgAt P Wg w st sm:=λst sm=>by unfold WgAt;rw[hW]
 unfold Mode at h⊢;simp only[e1,e2,e3,hs,hc];rcases h with h|h|h|h|h|h|h
 ·exact .inl h
 ·exact .inr (.inl h)
 ·exact .inr (.inr (.inl h))
 ·exact .inr (.inr (.inr (.inl ⟨h.1,h.2.1,h.2.2.1,h.2.2.2.1,h.2.2.2.2.1,hr h.2.2.2.2.2.1,h.2.2.2.2.2.2⟩)))
 ·exact .inr (.inr (.inr (.inr (.inl h))))
 ·exact .inr (.inr (.inr (.inr (.inr (.inl h)))))
 ·obtain⟨⟨p,n,a,b,c',d⟩,e⟩:=h;exact .inr (.inr (.inr (.inr (.inr (.inr ⟨⟨p,n,a,by rw[X6 (VZ b)];exact b,(Wo (VZ b)).2 c',d⟩,e⟩)))))
theorem ab0{i:Nat}{gi bA:SG}(hlt:i<gs.size)(hg:bA.status=.running)(h:∀g,gs[ic]?=some g->g.status=.running):∀g,((gs.map (woken P gi bA w')).setIfInBounds i bA)[ic]?=some g->g.status=.running:=by
 intro g Kx;rcases getElem?_next hlt Kx with⟨_,rfl⟩|⟨_,y,hy,rfl⟩
 ·exact hg
 ·rw[Yl (h y hy)];exact h y hy
theorem GS.aaj{k:GS}(h:k.cnt=0):k.idx=none:=by
 cases k<;>first|rfl|(simp[GS.cnt]at h)
theorem Inv.opens(h:Inv P n0 W0 V gs w t K Im ic ph st){p:Phase}(hp:ph=some p):(∃n,w.heap[p.c]?=some (.chan 0 #[] false n n false))\/((∀j,0<j->j<gs.size->(K j).idx=none)/\(∃n,w.heap[p.c]?=some (.chan 0 #[] true n n false))/\p.recv=true):=by
 subst hp;obtain⟨_,hc,_,gE⟩:=h.out;obtain⟨_,_,_,_,_,_,_,_,_,hx⟩:=gE;by_cases hr:p.recv=true
 ·rw[if_pos hr]at hx;obtain⟨_,_,_,s,_,hm⟩:=hx;rcases hm with h|h|h|h|h|h|h
  ·exact .inl h.1
  ·exact .inl h.1
  ·exact .inl h.1
  ·exact .inl h.1
  ·exact .inl h.1
  ·exact .inl h.1
  ·obtain⟨⟨_,n,_,_,_,hn⟩,_,gL,_⟩:=h;refine .inr ⟨λj hj iy=> ?_,⟨n,hn⟩,hr⟩;have hle:(K j).cnt<=sumTo gs.size λi=>(K i).cnt:=Wz (f:=λi=>(K i).cnt) iy;exact GS.aaj (by omega)
 ·rw[if_neg hr]at hx;have:=(hc.sat 0 h.pos).own p.c _ (by simp only[bE,if_true];exact hx.1);exact .inl ⟨0,this⟩
theorem Inv.slip(h:Inv P n0 W0 V gs w t K Im ic ph st){i:Nat}{gi bA:SG}{es:Array Ur}{k':GS}(hi:0<i)(aM:gs[i]?=some gi)(aR:stepG P false gi w=.go bA w es)(jr:∀e∈es,e.mute=true)
  (hk:A_ P Im ph k' (deafBehind (UT t i) es) bA) (sN:bA.status=.blocked->bA.offers=none) (db:k'.shape=(K i).shape) (l7:k'.view Im=(K i).view Im) (bI:(K i).shape=.gZ 0\/(K i).shape=.said 0->bA.status=.running) (uB:qL k'.cZ (K i).cZ):gp P n0 W0 V gs w sl t K Im ic ph st i:=by
 have hlt:i<gs.size:=(SR.1 aM).1;obtain⟨_,hc,hr,hp⟩:=h.out;have cX:∀j,((upd K i k') j).idx=(K j).idx:=λj=>by
  by_cases hj:j=i
  ·subst hj;rw[bw,<- GS.Gt,db,GS.Gt]
  ·rw[bc _ _ hj]
 have lB:∀j,((upd K i k') j).shape=(K j).shape:=λj=>by
  by_cases hj:j=i
  ·subst hj;rw[bw,db]
  ·rw[bc _ _ hj]
 have aag:∀j,((upd K i k') j).view Im=(K j).view Im:=λj=>by
  by_cases hj:j=i
  ·subst hj;rw[bw,l7]
  ·rw[bc _ _ hj]
 have oS:∀j,((upd K i k') j).cnt=(K j).cnt:=λj=>by rw[<- GS.mY,lB,GS.mY]
 have v5:∀j,((upd K i k') j).late=(K j).late:=λj=>by rw[<- GS.ma,lB,GS.ma]
 refine h.next (st':=st) hi aM aR hk sN (λp zZ=>(h.opens zZ).imp id λx j a b _=>x.1 j a b) ?_ ?_ ?_ uB ?_
 ·refine((hc.quiet hlt (λe he=>am6 (jr e he)) gi.frame.fn gi.frame.place).congr λj hj=> ?_).Bx λj hj=> ?_
  ·simp only[bE,aag]
  ·cases ph with
   |none=>exact hj
   |some p=>simpa only[mR,iU,cX,oS,v5]using hj
 ·cases st with
  |none=>
   intro idx a ha hm;have fX:=AW (λop az=>by obtain⟨e,he,rfl⟩:=TL az;exact ZS (jr e he)) ha;obtain⟨op,az,_⟩:=UU fX;rcases hr idx a fX hm with x|⟨x,y⟩|⟨_,z,_⟩
   ·exact .inl (x.app _)
   ·exact .inr (.inl ⟨x,λz=>y ((Wo (TG az)).1 z)⟩)
   ·cases z
  |some s=>
   refine hr.app (λidx a ha hx=> .inr (hx.app (by obtain⟨op,az,_⟩:=UU ha;exact TG az) λj _ _ hj=> .inl (by rw[cX];exact hj))) (λidx a _ ⟨op,az,_,hx⟩ _=> ?_);obtain⟨e,he,rfl⟩:=TL az;rw[ZS (jr e he)]at hx;cases hx
 ·cases ph with
  |none=>exact hp
  |some p=>
   obtain⟨a1,a2,a3,a4,a5,a6,a7,a8,a9,bQ⟩:=hp;refine⟨a1,a2,a3,a4,a5,a6,λj hj=>by rw[aag,<- GS.Pe,lB,GS.Pe];exact a7 j hj,λj j' m b1 b2 b3 b4 b5 b6=>a8 j j' m b1 (by simpa using b2) b3 (by simpa using b4) (by rw[<- cX];exact b5) (by rw[<- cX];exact b6),λj S b1 b2=> ?_,?_⟩
   ·obtain⟨m,c1,c2,c3⟩:=a9 j S b1 b2;exact⟨m,c1,by simpa using c2,by rw[cX];exact c3⟩
   ·split
    ·rename_i aH;rw[if_pos aH]at bQ;obtain⟨c1,c2,c3,s,c4,c5⟩:=bQ;refine⟨c1,c2,by simpa using c3,s,c4,?_⟩;have aW:((gs.map (woken P gi bA w)).setIfInBounds i bA).size=gs.size:=(by simp);rw[aW];by_cases fK:i=ic/\bA.status≠ .running
     ·
      obtain⟨rfl,ry⟩:=fK;unfold Mode at c5⊢;have e1:sumTo gs.size (λj=>((upd K i k') j).cnt)=sumTo gs.size λj=>(K j).cnt:=Vl λj _=>oS j;have e2:sumTo gs.size (λj=>((upd K i k') j).late)=sumTo gs.size λj=>(K j).late:=Vl λj _=>v5 j;simp only[e1,e2,lB];rcases c5 with h|h|h|h|h|h|h
      ·exact .inl h
      ·exact .inr (.inl h)
      ·exact .inr (.inr (.inl h))
      ·exact absurd (bI h.2.2.2.2.2.2.symm) ry
      ·exact .inr (.inr (.inr (.inr (.inl h))))
      ·exact .inr (.inr (.inr (.inr (.inr (.inl h)))))
      ·obtain⟨⟨p,n,a,b,c',d⟩,e⟩:=h;exact .inr (.inr (.inr (.inr (.inr (.inr ⟨⟨p,n,a,by rw[X6 (VZ b)];exact b,(Wo (VZ b)).2 c',d⟩,e⟩)))))
     ·refine c5.keep lB rfl rfl λrB g hg=> ?_;rcases getElem?_next hlt hg with⟨rfl,rfl⟩|⟨_,y,hy,rfl⟩
      ·exact Tt λx=>fK ⟨rfl,x⟩
      ·rw[Yl (rB y hy)];exact rB y hy
    ·rename_i aH;rw[if_neg aH]at bQ;refine⟨bQ.1,bQ.2.1,bQ.2.2.1,λj b1 b2=> ?_,bQ.2.2.2.2.1,?_⟩
     rotate_left
     ·rw[show ((gs.map (woken P gi bA w)).setIfInBounds i bA).size=gs.size by simp,Vl λj _=>oS j];exact bQ.2.2.2.2.2
     rcases bQ.2.2.2.1 j b1 (by simpa using b2)with x|⟨q,x⟩
     ·exact .inl (by rw[cX];exact x)
     ·by_cases hj:j=i
      ·subst hj;rw[bw];rw[x]at db;cases k'<;>simp[GS.shape]at db;exact .inr ⟨_,rfl⟩
      ·rw[bc _ _ hj];exact .inr ⟨q,x⟩
 ·intro g c _;exact⟨Mv hi,λgN ho=> .inr ⟨MO hi gN ho,ho⟩⟩
end
section
variable {P:SI}{n0:Nat}{W0:To}{V:View}{gs:Array SG}{w w':To}{sl:Option (Nat×Nat)}{t:Un}{K:Nat->GS}{Im:cm}{ic:Nat}{p:Phase}{st st':Option ec}
def jh (p:Phase)(U:View):Prop:=U.own p.c=none/\(∀o,U.ah p.c o=none)/\U.own p.Wg=none/\(∀o,U.ah p.Wg o=none)
theorem jh.step{U U':View}{es:Array Ur}(b:jh p U)(s:dc U w U' w' es)(hc:p.c<w.heap.size)(hW:p.Wg<w.heap.size):jh p U':=by
 have key:∀b,b<w.heap.size->U.own b=none->(∀o,U.ah b o=none)->U'.own b=none/\∀o,U'.ah b o=none:=by
  intro b hb ho hi;refine⟨s.own b hb ho,λo=> ?_⟩;cases e:U'.ah b o with
  |none=>rfl
  |some v=>
   rcases s.kx b o v e with x|x|x
   ·rw[hi o]at x;cases x
   ·exact absurd ho x
   ·omega
 have k1:=key p.c hc b.1 b.2.1;have k2:=key p.Wg hW b.2.2.1 b.2.2.2;exact⟨k1.1,k1.2,k2.1,k2.2⟩
theorem jh.Aq{U:View}(b:jh p U){l:Loc}(h:gI U l):¬qO p.c p.Wg l:=by
 intro hs;cases l with
 |cell a=>
  have e:a.block=p.Wg:=hs;rcases h with h|h
  ·exact h (by rw[e];exact b.2.2.1)
  ·exact h (by rw[e];exact b.2.2.2 _)
 |obj r=>have e:r=p.c:=hs;exact h (by rw[e];exact b.1)
 |_=>exact hs
theorem jh.ghost{U U':View}(b:jh p U)(g:dR U U'):jh p U':=by
 have key:∀b,U.own b=none->(∀o,U.ah b o=none)->U'.own b=none/\∀o,U'.ah b o=none:=by
  intro b ho hi;refine⟨g.own b ho,λo=> ?_⟩;cases e:U'.ah b o with
  |none=>rfl
  |some v=>
   rcases g.kx b o v e with x|x
   ·rw[hi o]at x;cases x
   ·exact absurd ho x
 have k1:=key p.c b.1 b.2.1;have k2:=key p.Wg b.2.2.1 b.2.2.2;exact⟨k1.1,k1.2,k2.1,k2.2⟩
theorem afO:jh p noView:=⟨rfl,λ_=>rfl,rfl,λ_=>rfl⟩
theorem Inv.blind(h:Inv P n0 W0 V gs w t K Im ic (some p) st){i:Nat}(hi:0<i):jh p ((K i).view Im):=let x:=h.phase.2.2.2.2.2.2.1 i hi;⟨x.1,x.2.1,x.2.2.1,x.2.2.2.1⟩
theorem Inv.rV(h:Inv P n0 W0 V gs w t K Im ic (some p) st){i:Nat}(hi:0<i)(hc:(K i).mX=true):i=ic:=(h.phase.2.2.2.2.2.2.1 i hi).2.2.2.2 hc
theorem Inv.low(h:Inv P n0 W0 V gs w t K Im ic (some p) st):p.c<w.heap.size/\p.Wg<w.heap.size:=⟨h.phase.2.2.2.1,h.phase.2.2.2.2.1⟩
theorem acs(hc:p.c<w.heap.size)(hW:p.Wg<w.heap.size){l:Loc}(h:qO p.c p.Wg l):l.low w.heap.size:=by
 cases l with
 |cell a=>show a.block<_;rw[show a.block=p.Wg from h];exact hW
 |obj r=>show r<_;rw[show r=p.c from h];exact hc
 |_=>exact h.elim
theorem Inv.agl(h:Inv P n0 W0 V gs w t K Im ic (some p) st)(hr:p.recv=true){i:Nat}(hlt:i<gs.size)(hk:(K i).cnt=1):∃s,WgAt P p.Wg w s 0:=by
 obtain⟨_,_,_,_,_,_,_,_,_,hx⟩:=h.phase;rw[if_pos hr]at hx;obtain⟨_,_,_,s,hs,hm⟩:=hx;have hle:(K i).cnt<=sumTo gs.size λi=>(K i).cnt:=Wz (f:=λi=>(K i).cnt) hlt;rcases hm with h|h|h|h|h|h|h
 ·exact⟨_,h.2.2.2.2.1⟩
 ·exact⟨_,h.2.2.2.2.2.1⟩
 ·have:=h.2.2.2.1;omega
 ·have:=h.2.2.2.1;omega
 ·have:=h.2.2.2.1;omega
 ·have:=h.2.2.2.1;omega
 ·have:=h.2.2.1;omega
theorem Inv.Ol(h:Inv P n0 W0 V gs w t K Im ic (some p) st)(hr:p.recv=true){n:Nat}(hk:K ic=.acq n\/K ic=.said n):∃x y,WgAt P p.Wg w x y:=by
 obtain⟨_,_,_,_,_,_,_,_,_,hx⟩:=h.phase;rw[if_pos hr]at hx;obtain⟨_,_,_,s,hs,hm⟩:=hx;unfold Mode at hm;rcases hm with h|h|h|h|h|h|h
 ·exact⟨_,_,h.2.2.2.2.1⟩
 ·exact⟨_,_,h.2.2.2.2.2.1⟩
 ·have key:∀N,0<(sumTo N λi=>(K i).late)->∃i,i<N/\(K i).late≠0:=by
   intro N;induction N with
   |zero=>intro h;exact absurd h (by simp[sumTo])
   |succ N ih=>
    intro h;by_cases h0:(K N).late=0
    ·simp only[sumTo,h0]at h;obtain⟨i,hi,hl⟩:=ih (by omega);exact⟨i,by omega,hl⟩
    ·exact⟨N,by omega,h0⟩
  have:=key gs.size (by have:=h.2.2.1;omega);obtain⟨i,hi,hl⟩:=this;cases kJ:K i<;>rw[kJ]at hl<;>first
   |exact⟨_,_,h.2.2.2.2.2.1 i hi (by rw[kJ];exact .inl rfl)⟩
   |exact⟨_,_,h.2.2.2.2.2.1 i hi (by rw[kJ];exact .inr rfl)⟩
   |exact⟨_,_,h.2.2.2.2.2.2 i hi (by rw[kJ];rfl)⟩
   |exact absurd rfl hl
 ·exact⟨_,_,h.2.2.2.2.1⟩
 ·exact⟨_,_,h.2.2.2.2.1⟩
 ·exfalso;rcases hk with hk|hk<;>rw[hk]at h<;>rcases h.2.2.2.2 with h|h<;>cases h
 ·exfalso;rcases hk with hk|hk<;>rw[hk]at h<;>cases h.2.2.2
theorem Inv.counted(h:Inv P n0 W0 V gs w t K Im ic (some p) st){i:Nat}(_hi:0<i)(hlt:i<gs.size)(hk:(K i).cnt=1):(∃n,w.heap[p.c]?=some (.chan 0 #[] false n n false))/\st=some .early:=by
 have gE:=h.phase;obtain⟨_,_,_,_,_,_,_,_,_,hx⟩:=gE;by_cases hr:p.recv=true
 ·rw[if_pos hr]at hx;obtain⟨_,_,_,s,hs,hm⟩:=hx;have hle:(K i).cnt<=sumTo gs.size λi=>(K i).cnt:=Wz (f:=λi=>(K i).cnt) hlt;rcases hm with h|h|h|h|h|h|h
  ·exact⟨h.1,by rw[hs,h.2.1]⟩
  ·exact⟨h.1,by rw[hs,h.2.1]⟩
  ·exact⟨h.1,by rw[hs,h.2.1]⟩
  ·exact⟨h.1,by rw[hs,h.2.1]⟩
  ·exact⟨h.1,by rw[hs,h.2.1]⟩
  ·have:=h.2.2.2.1;omega
  ·have:=h.2.2.1;omega
 ·rw[if_neg hr]at hx;have:=(h.core.sat 0 h.pos).own p.c _ (by simp only[bE,if_true];exact hx.1);exact⟨⟨0,this⟩,hx.2.2.1⟩
theorem Inv.MQ(h:Inv P n0 W0 V gs w t K Im ic (some p) st){i:Nat}{k':GS}{gs':Array SG}{t':Un}(aW:gs'.size=gs.size)(iK:w.heap.size<=w'.heap.size)(hb:jh p (k'.view Im))(xE:k'.mX=true->i=ic)
  (cX:k'.idx=(K i).idx\/(k'.idx=none/\∀j,(K i).idx=some j->p.Ss[j]?=some []))
  (dV:if p.recv then∃s,st'=some s/\Mode P p.c p.Wg gs.size w' gs' t' (upd K i k') ic s
    else st'=some .early/\k'.idx.isSome=true/\k'.cnt=(K i).cnt):yU P n0 V gs' w' t' (upd K i k') Im ic (some p) st':=by
 obtain⟨a1,a2,a3,a4,a5,a6,a7,a8,a9,bQ⟩:=h.phase;have jp:∀j m,((upd K i k') j).idx=some m->(K j).idx=some m:=by
  intro j m hj;by_cases b9:j=i
  ·subst b9;rw[bw]at hj;rcases cX with x|⟨x,_⟩
   ·rw[<- x];exact hj
   ·rw[x]at hj;cases hj
  ·rw[bc _ _ b9]at hj;exact hj
 refine⟨a1,a2,a3,Td a4 iK,Td a5 iK,a6,λj hj=> ?_,λj j' m b1 b2 b3 b4 b5 b6=>a8 j j' m b1 (aW▸b2) b3 (aW▸b4) (jp _ _ b5) (jp _ _ b6),λj S b1 b2=> ?_,?_⟩
 ·by_cases b9:j=i
  ·subst b9;rw[bw];exact⟨hb.1,hb.2.1,hb.2.2.1,hb.2.2.2,xE⟩
  ·rw[bc _ _ b9];exact a7 j hj
 ·obtain⟨m,c1,c2,c3⟩:=a9 j S b1 b2;refine⟨m,c1,by rw[aW];exact c2,?_⟩;by_cases cT:m=i
  ·subst cT;rw[bw];rcases cX with x|⟨_,x⟩
   ·rw[x];exact c3
   ·have:=x j c3;rw[this]at b1;cases b1;exact absurd rfl b2
  ·rw[bc _ _ cT];exact c3
 ·split
  ·rename_i aH;rw[if_pos aH]at bQ dV;obtain⟨c1,c2,c3,_⟩:=bQ;exact⟨c1,c2,by rw[aW];exact c3,by rw[aW];exact dV⟩
  ·rename_i aH;rw[if_neg aH]at bQ dV;obtain⟨c1,c2,_,c4,c5⟩:=bQ;refine⟨c1,c2,dV.1,λj b1 b2=> ?_,c5.1,by rw[aW,kZ K k' GS.cnt dV.2.2];exact c5.2⟩;by_cases b9:j=i
   ·subst b9;rw[bw];exact .inl dV.2.1
   ·rw[bc _ _ b9];exact c4 j b1 (aW▸b2)
theorem Inv.adv(h:Inv P n0 W0 V gs w t K Im ic (some p) st){i j:Nat}{gi bA:SG}{es:Array Ur}{hh h':Ht}{Vi V':View}(hi:0<i)(aM:gs[i]?=some gi)(hK:K i=.work j hh Vi)(aR:stepG P false gi w=.go bA w' es)
  (s:dc Vi w V' w' es) (hk:lg P h' V' bA) (lY:A9 h' hh):gp P n0 W0 V gs w sl t K Im ic (some p) st i:=by
 have hlt:i<gs.size:=(SR.1 aM).1;have dg:=h.is i gi hi aM;simp only[hK,GS.is]at dg;obtain⟨hd,_,S,hS,i_⟩:=dg;have gL:(K i).cnt=1:=by rw[hK];rfl
 obtain⟨⟨n,gD⟩,kS⟩:=h.counted hi hlt gL;have h_:=h.low;have cK:jh p Vi:=by have:=h.blind hi;rw[hK]at this;exact this
 have ajz:=cK.step s h_.1 h_.2;have l7:bE V Im K i=Vi:=by simp[bE,hK,GS.view];omega
 have eP:w'.heap[p.c]?=w.heap[p.c]?:=s.frame p.c h_.1 cK.1;have hWh:w'.heap[p.Wg]?=w.heap[p.Wg]?:=s.frame p.Wg h_.2 cK.2.2.1;have lB:∀m,((upd K i (.work j h' V')) m).shape=(K m).shape:=λm=>by
  by_cases hm:m=i
  ·subst hm;rw[bw,hK];rfl
  ·rw[bc _ _ hm]
 have cX:∀m,((upd K i (.work j h' V')) m).idx=(K m).idx:=λm=>by rw[<- GS.Gt,lB,GS.Gt]
 have oS:∀m,((upd K i (.work j h' V')) m).cnt=(K m).cnt:=λm=>by rw[<- GS.mY,lB,GS.mY]
 have v5:∀m,((upd K i (.work j h' V')) m).late=(K m).late:=λm=>by rw[<- GS.ma,lB,GS.ma]
 have bW:V'.role=Vi.role:=s.role;refine h.next (k':=.work j h' V') (st':=st) hi aM aR ⟨by rw[hd,s.deaf],hk,S,hS,bW.trans i_⟩ (λx=>by rw[hk.running]at x;cases x) (λq hq=>by cases hq;exact .inl ⟨n,by rw[eP];exact gD⟩) ?_ ?_ ?_ ?_ ?_
 ·rw[NN V Im K hi];refine(Core.step (V':=V') h.core hlt (by rw[l7];exact s) (λe he x hx hs=> ?_) gi.frame.fn gi.frame.place).Bx λm hm=> ?_
  ·exfalso;rcases(Jb (s.eW e he) hx).1 with y|⟨y,_⟩|y
   ·exact cK.Aq y.rd hs
   ·exact cK.Aq y hs
   ·exact y (acs h_.1 h_.2 hs)
  ·simpa only[mR,iU,cX,oS,v5]using hm
 ·rw[kS];have hr:Rest (AY (some p)) t K ic st:=h.out.2.2.1;rw[kS]at hr;refine hr.app (λidx a ha hx=> .inr (hx.app (by obtain⟨op,az,_⟩:=UU ha;exact TG az) λm _ _ hm=> .inl (by rw[cX];exact hm))) (λidx a _ ⟨op,az,xK,_⟩ _=> .inr (.inr ⟨i,?_,hi,.inl ?_⟩))
  ·obtain⟨e,_,rfl⟩:=TL az;simp[Wx,xK]
  ·rw[bw];rfl
 ·refine h.MQ (by simp) s.size ajz (λx=>by cases x) (.inl (by rw[hK];rfl)) ?_;have hx:=h.phase.2.2.2.2.2.2.2.2.2;split
  ·rename_i aH;rw[if_pos aH]at hx;obtain⟨_,_,_,s',o_,hm⟩:=hx;exact⟨s',o_,hm.keep lB eP hWh λrB=>ab0 hlt hk.running rB⟩
  ·exact⟨kS,rfl,by rw[hK];rfl⟩
 ·rw[hK];refine .inr ⟨by simp[GS.cZ,bW],.inl lY⟩
 ·intro g c Kj;have ho:yT w' c:=⟨n,by rw[<- Kj p rfl,eP];exact gD⟩;exact⟨Mv hi,λgN _=> .inr ⟨MO hi gN ho,ho⟩⟩
end
def nE (V:View)(I':cm)(O':Bi)(r:mN):View:=
 {V with ah:=λb o=>match V.ah b o with|some x=>some x|none=>I' b o,own:=λb=>match V.own b with|some x=>some x|none=>O' b,role:=r}
def lL (B:Nat->Bool)(U:View):Bi:=λb=>if B b then U.own b else none
def lI (B:Nat->Bool)(U:View)(r:mN):View:={U with own:=λb=>if B b then none else U.own b,role:=r}
section
variable {P:SI}{n0:Nat}{W0:To}{V:View}{gs gs':Array SG}{w w':To}{sl:Option (Nat×Nat)}{t:Un}{K:Nat->GS}{Im:cm}{ic:Nat}{p:Phase}{st:Option ec}
theorem abo{k:GS}{d:Nat}{x:SG}(h:k.is P p.c p.Wg Im p.Ss d x)(r:Nat):offersAt x r false=[]:=by
 rcases GS.runs h with hr|⟨hf,_⟩|⟨j,h',V,V',g0,v,z,rfl⟩|⟨_,hb,ho⟩
 ·exact UV (by rw[hr];simp) r false
 ·exact UV (by rw[hf];simp) r false
 ·obtain⟨_,_,rfl,_⟩:=h;exact offersAt_parked_send' _ _ _ _ _ _
 ·unfold offersAt;simp[hb,ho]
theorem amQ{g:SG}(h:j9 gs g){x:SG}(hx:gs[0]?=some x)(r:Nat)(s:Bool):offersAt x r s=[]:=by
 obtain⟨g0,h0,h1,_⟩:=h;rw[h0]at hx;cases hx;exact UV (by rw[h1];simp) r s
theorem Inv.ar2(h:Inv P n0 W0 V gs w t K Im ic (some p) st){g:SG}(hm:j9 gs g){i j:Nat}{gi:SG}{hh h':Ht}{Vi V₁:View}{sp:Spec}{S:List Spec}{v z:SO}{B:Nat->Bool}(hi:0<i)(aM:gs[i]?=some gi)
  (hK:K i=.work j hh Vi) (hg:dR Vi V₁) (hr:V₁.role=.work p.c p.Wg (sp::S)) (hd:V₁.deaf=0) (aR:stepG P false gi w=.comm gi #[scase p.c v z] true .send w #[])
  (xX:sp v V₁.ah (lL B V₁)) (hk:lg P h' (lI B V₁ (.work p.c p.Wg S)) (T7 gi undef)):gp P n0 W0 V gs w sl t K Im ic (some p) st i:=by
 have hlt:i<gs.size:=(SR.1 aM).1;have dg:=h.is i gi hi aM;simp only[hK,GS.is]at dg;obtain⟨bx,_,S',hS,i_⟩:=dg;have gL:(K i).cnt=1:=by rw[hK];rfl
 obtain⟨⟨n,gD⟩,kS⟩:=h.counted hi hlt gL;have eJ:(i==0)=false:=by simp;omega
 have er:mN.work p.c p.Wg S'=.work p.c p.Wg (sp::S):=by rw[<- i_,<- hg.role,hr]
 cases er;let k':GS:=.nJ j h' V₁ (lI B V₁ (.work p.c p.Wg S)) gi v z;have hw:=crowd_waits (P:=P) (sl:=sl) (i:=i) aM (by rw[eJ];exact aR) (λcc iY=>by
  simp only[TJ,SK,SZ,or_false]at iY;subst iY;refine ways_send_none gD (by simp) (partners_nil λm x hx=> ?_);rcases X_ gs i m x hx with⟨_,rfl⟩|⟨_,jw⟩
  ·exact Zl _ _
  ·rcases UF m with rfl|iM
   ·exact amQ hm jw _ _
   ·exact abo (h.is m x iM jw) _)
 have l7:bE V Im K i=Vi:=by simp[bE,hK,GS.view];omega
 have cK:jh p Vi:=by have:=h.blind hi;rw[hK]at this;exact this
 have cX:∀m,((upd K i k') m).idx=(K m).idx:=λm=>by
  by_cases hm:m=i
  ·subst hm;rw[bw,hK];rfl
  ·rw[bc _ _ hm]
 have lB:∀m,((upd K i k') m).shape=(K m).shape:=λm=>by
  by_cases hm:m=i
  ·subst hm;rw[bw,hK];rfl
  ·rw[bc _ _ hm]
 have oS:∀m,((upd K i k') m).cnt=(K m).cnt:=λm=>by rw[<- GS.mY,lB,GS.mY]
 have v5:∀m,((upd K i k') m).late=(K m).late:=λm=>by rw[<- GS.ma,lB,GS.ma]
 have e0:t++Ta i gi.frame.fn gi.frame.place #[]=t:=by simp[Ta]
 have aW:(gs.setIfInBounds i (parked gi #[scase p.c v z] .send)).size=gs.size:=by simp
 refine⟨_,w,_,upd K i k',st,hw,aW,?_,λg' c _=>⟨λ⟨g0,a,b⟩=>⟨g0,by rw[SU (by omega)];exact a,b⟩,λ⟨g0,z',a,b⟩ ho=> .inr ⟨⟨g0,z',by rw[SU (by omega)];exact a,b⟩,ho⟩⟩,λg' c ⟨g1,z',a,_⟩ _=>(by obtain⟨g0,h0,h1,_⟩:=hm;rw[a]at h0;cases h0;cases h1),
  .inl ⟨i,hlt,?_,λm hm=>by show (upd K i k' m).cZ=(K m).cZ;rw[bc _ _ hm]⟩⟩
 ·rw[e0];refine Inv.mk' (by rw[aW];exact h.pos) (by rw[bc _ _ (by omega)];exact h.k0) h.d0 (λm x hm hx=> ?_) ?_ ?_ ?_
  ·by_cases cT:m=i
   ·subst cT;rw[S_ hlt]at hx;cases hx;rw[bw];exact⟨by rw[bx,<- hg.deaf,hd],hd,rfl,hk,sp,S,B,hS,hr,xX,rfl⟩
   ·rw[SU (Ne.symm cT)]at hx;rw[bc _ _ cT];exact h.is m x hm hx
  ·rw[aW,NN V Im K hi];exact(Core.ghost (V':=V₁) h.core hlt (by rw[l7];exact hg)).Bx λm hm=>by simpa only[mR,iU,cX,oS,v5]using hm
  ·have hr:Rest (AY (some p)) t K ic st:=h.out.2.2.1;rw[kS]at hr⊢;have:=hr.app (u:=#[]) (K':=upd K i k') (s':=.early) (λidx a ha hx=> .inr (hx.app (by obtain⟨op,az,_⟩:=UU ha;exact TG az) λm _ _ hm=> .inl (by rw[cX];exact hm))) (λidx a _ ⟨op,az,_⟩ _=>by simp at az);simpa using this
  ·refine h.MQ aW (SQ _) (cK.ghost hg) (λx=>by cases x) (.inl (by rw[hK];rfl)) ?_;have hx:=h.phase.2.2.2.2.2.2.2.2.2;split
   ·rename_i aH;rw[if_pos aH]at hx;obtain⟨_,fZ,_,s',o_,fM⟩:=hx;refine⟨s',o_,?_⟩;have:=fM.keep (w':=w) (gs':=gs.setIfInBounds i (parked gi #[scase p.c v z] .send)) (u:=#[]) lB rfl rfl λrB x hx=>by
     by_cases fK:ic=i
     ·subst fK;exfalso;unfold Mode at fM;have aI:∀s:GS,(K ic).shape=s->s=.work j .z noView:=λs e=>(by rw[<- e,hK];rfl);rcases fM with h|h|h|h|h|h|h
      ·rcases h.2.2.2.2.2 with⟨_,e,_⟩|⟨_,e,_⟩<;>cases aI _ e
      ·rcases h.2.2.2.2.2.2 with e|e<;>cases aI _ e
      ·rcases h.2.2.2.2.1 with e|e<;>cases aI _ e
      ·rcases h.2.2.2.2.2.2 with e|e<;>cases aI _ e
      ·rcases h.2.2.2.2.2 with e|e<;>cases aI _ e
      ·rcases h.2.2.2.2 with e|e<;>cases aI _ e
      ·cases aI _ h.2.2.2
     ·rw[SU (Ne.symm fK)]at hx;exact rB x hx
    simpa using this
   ·exact⟨kS,rfl,by rw[hK];rfl⟩
 ·show qL (upd K i k' i).cZ (K i).cZ;rw[hK];refine .inl ?_;simp only[bw,k',GS.cZ,hr,i_];omega
theorem Mode.alQ{c Wg N:Nat}{u:Un}{K':Nat->GS}{s:ec}(h:Mode P c Wg N w gs t K ic s)(gL:1<=sumTo N λi=>(K i).cnt)(hs:∀j,(K' j).shape=(K j).shape)(ho:∃n,w'.heap[c]?=some (.chan 0 #[] false n n false)) (hW:w'.heap[Wg]?=w.heap[Wg]?):Mode P c Wg N w' gs' (t++u) K' ic s:=by
 have e1:sumTo N (λi=>(K' i).cnt)=sumTo N λi=>(K i).cnt:=Vl λi _=>by rw[<- GS.mY,hs i,GS.mY]
 have e2:sumTo N (λi=>(K' i).late)=sumTo N λi=>(K i).late:=Vl λi _=>by rw[<- GS.ma,hs i,GS.ma]
 have e3:∀st sm,WgAt P Wg w' st sm=WgAt P Wg w st sm:=λst sm=>by unfold WgAt;rw[hW]
 unfold Mode at h⊢;simp only[e1,e2,e3,hs];rcases h with h|h|h|h|h|h|h
 ·exact .inl ⟨ho,h.2⟩
 ·exact .inr (.inl ⟨ho,h.2⟩)
 ·have:=h.2.2.2.1;omega
 ·have:=h.2.2.2.1;omega
 ·have:=h.2.2.2.1;omega
 ·have:=h.2.2.2.1;omega
 ·have:=h.2.2.1;omega
theorem Inv.met(h:Inv P n0 W0 V gs w t K Im ic (some p) st)(aH:p.recv=true)(gA:V.deaf=0){i j:Nat}{h':Ht}{V₁:View}{gi:SG}{sp:Spec}{S:List Spec}{B:Nat->Bool}(hi:0<i)(hlt:i<gs.size)
  (xL:(K i).idx=some j) (hg:dR ((K i).view Im) V₁) (hr:V₁.role=.work p.c p.Wg (sp::S)) (hd:V₁.deaf=0) (og:UT t i=0) (hS:p.Ss[j]?=some (sp::S))
  (hk:lg P h' (lI B V₁ (.work p.c p.Wg S)) (T7 gi undef)) (aW:gs'.size=gs.size) (aM:gs'[i]?=some (T7 gi undef)) (hgo:∀m,m≠i->0<m->gs'[m]?=gs[m]?)
  {u:Un} {x0 x1 x2 x3:V_} (hu:u=#[x0,x1,x2,x3]) {s:Nat} (h0:x0.g=i/\x0.act=.send p.c s) (h1:x1.g=0/\x1.act=.recv p.c s 0) (h2:x2.g=i/\x2.act=.sendDone p.c s) (h3:x3.g=0/\x3.act=.recvDone p.c s)
  (bP:w'.heap.size=w.heap.size) (gF:∀b,b≠p.c->w'.heap[b]?=w.heap[b]?) (wa:∃n,w'.heap[p.c]?=some (.chan 0 #[] false n n false)) (Gh:w'.tape=w.tape) (hw5:w'.os=w.os) (hw6:w'.output=w.output):
  (∀b,V.own b≠none->lL B V₁ b=none)/\(∀b o,V.own b≠none->V₁.ah b o≠none->V.ah b o≠none)/\
  Inv P n0 W0 (nE V V₁.ah (lL B V₁) (.recv p.c p.Wg (p.Ss.set j S))) gs' w' (t++u) (upd K i (.work j h' (lI B V₁ (.work p.c p.Wg S)))) Im ic (some {p with Ss:=p.Ss.set j S}) st:=by
 obtain⟨dg,hc,lA,gE⟩:=h.out;obtain⟨a1,a2,a3,a4,a5,a6,a7,a8,a9,bQ⟩:=gE;rw[if_pos aH]at bQ;obtain⟨⟨c1,c2,c3,c4⟩,c5,c6,s',c7,c8⟩:=bQ;have Cg:jh p V:=⟨c1,c2,c3,c4⟩;have vO:=(h.blind hi).ghost hg;have l7:bE V Im K i=(K i).view Im:=by simp[bE];omega
 have rE:bE V Im K 0=V:=by simp[bE]
 have dl:Core (upd (bE V Im K) i V₁) gs.size w t (rT (some p)) (mR (some p) gs.size ic K) ic n0 W0:=hc.ghost hlt (by rw[l7];exact hg);have dE:Sat V₁ w:=by have:=dl.sat i hlt;rwa [bw]at this
 have cx:Sat V w:=by have:=dl.sat 0 h.pos;rwa [bc _ _ (by omega),rE]at this
 have EG:jA V V₁:=by have:=dl.dL 0 i h.pos hlt (by omega);rwa [bc _ _ (show 0≠i by omega),bw,rE]at this
 have PA:jA V₁ V:=by have:=dl.dL i 0 hlt h.pos (by omega);rwa [bw,bc _ _ (show 0≠i by omega),rE]at this
 have aj1:∀b,V.own b≠none->lL B V₁ b=none:=λb hb=>by
  unfold lL;split
  ·exact(EG b hb).1
  ·rfl
 refine⟨aj1,λb o hb=>(EG b hb).2 o,?_⟩;have jr:∀op∈u,op.act.touch?=none/\still op.act/\(op.g=0\/op.g=i)/\op.act.low w.heap.size/\∀a,op.act≠ .mark (.release a):=by
  intro op az;rw[hu]at az;simp only[TJ,SK,SZ,or_false]at az;rcases az with rfl|rfl|rfl|rfl
  ·rw[h0.2,h0.1];exact⟨rfl,⟨by simp,by simp⟩,.inr rfl,a4,by simp⟩
  ·rw[h1.2,h1.1];exact⟨rfl,⟨by simp,by simp⟩,.inl rfl,a4,by simp⟩
  ·rw[h2.2,h2.1];exact⟨rfl,⟨by simp,by simp⟩,.inr rfl,a4,by simp⟩
  ·rw[h3.2,h3.1];exact⟨rfl,⟨by simp,by simp⟩,.inl rfl,a4,by simp⟩
 have nz:∀op∈u,still op.act:=λop az=>(jr op az).2.1;have uo:∀m,UT (t++u) m=UT t m:=λm=>Deaf_still nz;have d00:UT t 0=0:=by rw[h.d0,gA]
 have dW:∀idx,Wi t i idx->Wi (t++u) 0 idx:=λidx hx=>amX hu h0 (jr x1 (by rw[hu];simp)).2.1 (jr x2 (by rw[hu];simp)).2.1 h3 og d00 hx;let k':GS:=.work j h' (lI B V₁ (.work p.c p.Wg S));let V':View:=nE V V₁.ah (lL B V₁) (.recv p.c p.Wg (p.Ss.set j S));have cX:∀m,((upd K i k') m).idx=(K m).idx:=λm=>by
  by_cases hm:m=i
  ·subst hm;rw[bw,xL];rfl
  ·rw[bc _ _ hm]
 have db:(K i).shape=.work j .z noView:=by
  cases kJ:K i<;>rw[kJ]at xL<;>simp[GS.idx]at xL
  ·subst xL;rfl
  ·subst xL;rfl
 have lB:∀m,((upd K i k') m).shape=(K m).shape:=λm=>by
  by_cases hm:m=i
  ·subst hm;rw[bw,db];rfl
  ·rw[bc _ _ hm]
 have oS:∀m,((upd K i k') m).cnt=(K m).cnt:=λm=>by rw[<- GS.mY,lB,GS.mY]
 have v5:∀m,((upd K i k') m).late=(K m).late:=λm=>by rw[<- GS.ma,lB,GS.ma]
 have gL:(K i).cnt=1:=by rw[<- GS.mY,db];rfl
 have kS:=(h.counted hi hlt gL).2;have rZ:bE V' Im (upd K i k') 0=V':=by simp[bE]
 have wH:bE V' Im (upd K i k') i=lI B V₁ (.work p.c p.Wg S):=by simp[bE,bw,k',GS.view];omega
 have wI:∀m,m≠0->m≠i->bE V' Im (upd K i k') m=upd (bE V Im K) i V₁ m:=λm h1 h2=>by simp[bE,bc _ _ h2,h1]
 have Dn:upd (bE V Im K) i V₁ 0=V:=by rw[bc _ _ (by omega),rE]
 have wu:upd (bE V Im K) i V₁ i=V₁:=bw _ _ _;have ki:∀{U:View},jh p U->Sat U w->Sat U w':=λ{U} hb hs=>⟨λb o v e=>by
   have aI:b≠p.c:=λx=>(by rw[x,hb.2.1 o]at e;cases e);have:=hs.ah b o v e;simp only[UA,gF b aI]at this⊢;exact this,λb x e=>by
   have aI:b≠p.c:=λy=>(by rw[y,hb.1]at e;cases e);rw[gF b aI];exact hs.own b x e⟩
 have ala:Sat V' w:=⟨λb o v e=>by
   simp only[V',nE]at e;split at e
   ·rename_i x hx;cases e;exact cx.ah b o _ hx
   ·exact dE.ah b o v e,λb x e=>by
   simp only[V',nE]at e;split at e
   ·rename_i y hy;cases e;exact cx.own b _ hy
   ·unfold lL at e;split at e
    ·exact dE.own b x e
    ·cases e⟩
 have Ch:jh p V':=⟨by simp[V',nE,c1,lL,vO.1],λo=>by simp[V',nE,c2,vO.2.1],by simp[V',nE,c3,lL,vO.2.2.1],λo=>by simp[V',nE,c4,vO.2.2.2]⟩;have hsK:Sat (lI B V₁ (.work p.c p.Wg S)) w:=⟨dE.ah,λb x e=>by
   simp only[lI]at e;split at e
   ·cases e
   ·exact dE.own b x e⟩
 have Cf:jh p (lI B V₁ (.work p.c p.Wg S)):=⟨by simp[lI,vO.1],vO.2.1,by simp[lI,vO.2.2.1],vO.2.2.2⟩;have Ax:∀b,V'.own b≠none->V.own b≠none\/(B b=true/\V₁.own b≠none):=λb hb=>by
  simp only[V',nE]at hb;split at hb
  ·rename_i y hy;exact .inl (by rw[hy];simp)
  ·unfold lL at hb;split at hb
   ·rename_i hB;exact .inr ⟨hB,hb⟩
   ·exact absurd rfl hb
 have uJ:∀b o,V'.ah b o≠none<->(V.ah b o≠none\/V₁.ah b o≠none):=λb o=>by
  simp only[V',nE];cases e:V.ah b o with
  |some x=>simp
  |none=>simp
 have Ay:∀b,(lI B V₁ (.work p.c p.Wg S)).own b≠none->B b=false/\V₁.own b≠none:=λb hb=>by
  simp only[lI]at hb;split at hb
  ·exact absurd rfl hb
  ·rename_i hB;exact⟨by simpa using hB,hb⟩
 have xG:Core (bE V' Im (upd K i k')) gs.size w' (t++u) (rT (some p)) (mR (some p) gs.size ic K) ic n0 W0:=by
  refine⟨λm hm=> ?_,λa b ha hb gB=> ?_,?_,Gh.trans hc.tape,hw5.trans hc.os,hw6.trans hc.out,λb hb=>(gF b (by omega)).trans (hc.old b hb),λm hm b hb=> ?_,by rw[bP];exact hc.n0⟩
  ·by_cases iM:m=0
   ·subst iM;rw[rZ];exact ki Ch ala
   ·by_cases cT:m=i
    ·subst cT;rw[wH];exact ki Cf hsK
    ·rw[wI m iM cT,bc _ _ cT];have:=hc.sat m hm;refine ki ?_ this;have e:bE V Im K m=(K m).view Im:=(by simp[bE,iM]);rw[e];exact h.blind (by omega)
  ·
   have dm:∀m,m<gs.size->m≠0->m≠i->jA (upd (bE V Im K) i V₁ m) V/\jA V (upd (bE V Im K) i V₁ m)/\jA (upd (bE V Im K) i V₁ m) V₁/\jA V₁ (upd (bE V Im K) i V₁ m):=λm hm h1 h2=>
    ⟨by have:=dl.dL m 0 hm h.pos h1;rwa [Dn]at this,by have:=dl.dL 0 m h.pos hm (Ne.symm h1);rwa [Dn]at this,by have:=dl.dL m i hm hlt h2;rwa [wu]at this,by have:=dl.dL i m hlt hm (Ne.symm h2);rwa [wu]at this⟩
   by_cases zE:a=0
   ·subst zE;by_cases iH:b=i
    ·subst iH;rw[rZ,wH];intro q hq;rcases Ax q hq with x|⟨hB,x⟩
     ·refine⟨?_,λo ho=>(uJ q o).2 (.inl ((EG q x).2 o ho))⟩;simp only[lI];split
      ·rfl
      ·exact(EG q x).1
     ·refine⟨by simp only[lI,hB,if_true],λo ho=>(uJ q o).2 (.inr ho)⟩
    ·have sM:b≠0:=Ne.symm gB;rw[rZ,wI b sM iH];obtain⟨_,e2,_,e4⟩:=dm b hb sM iH;intro q hq;rcases Ax q hq with x|⟨_,x⟩
     ·exact⟨(e2 q x).1,λo ho=>(uJ q o).2 (.inl ((e2 q x).2 o ho))⟩
     ·exact⟨(e4 q x).1,λo ho=>(uJ q o).2 (.inr ((e4 q x).2 o ho))⟩
   ·by_cases nd:a=i
    ·subst nd;by_cases sM:b=0
     ·subst sM;rw[rZ,wH];intro q hq;obtain⟨hB,x⟩:=Ay q hq;refine⟨?_,λo ho=> ?_⟩
      ·simp only[V',nE,(PA q x).1,lL,hB];rfl
      ·rcases(uJ q o).1 ho with y|y
       ·exact(PA q x).2 o y
       ·exact y
     ·rw[wH,wI b sM (Ne.symm gB)];obtain⟨_,_,_,e4⟩:=dm b hb sM (Ne.symm gB);intro q hq;exact e4 q (Ay q hq).2
    ·rw[wI a zE nd];obtain⟨e1,e2,e3,e4⟩:=dm a ha zE nd;by_cases sM:b=0
     ·subst sM;rw[rZ];intro q hq;refine⟨?_,λo ho=>((uJ q o).1 ho).elim ((e1 q hq).2 o) ((e3 q hq).2 o)⟩;simp only[V',nE,(e1 q hq).1,lL,(e3 q hq).1,ite_self]
     ·by_cases iH:b=i
      ·subst iH;rw[wH];intro q hq;refine⟨?_,(e3 q hq).2⟩;simp only[lI,(e3 q hq).1,ite_self]
      ·rw[wI b sM iH];exact dl.dL a b ha hb gB
  ·rw[bP];refine dl.ti.mute (λop az=>(jr op az).1) (λop az=>(jr op az).2.2.2.1) (λop az=>((jr op az).2.2.1).elim (λx=>by rw[x];exact h.pos) (λx=>by rw[x];exact hlt)) (SQ _) (λop az=>(jr op az).2.2.2.2) (λm hm l hl idx a ha gC rH=> ?_) (λm hm l hl idx a ha gC=> ?_) (λidx a ha db=>⟨λhp m hm=>((dl.ti.sp idx a ha db).1 hp m hm).app u,λhp=>((dl.ti.sp idx a ha db).2 hp).app u⟩)
   ·obtain⟨_,cS,nk⟩:=hl;by_cases iM:m=0
    ·subst iM;rw[rZ]at cS;have:gI V l\/gI V₁ l:=by
      cases l with
      |cell a'=>
       rcases cS with x|x
       ·exact(Ax _ x).imp .inl (λy=> .inl y.2)
       ·exact((uJ _ _).1 x).imp .inr .inr
      |obj r=>exact(Ax _ cS).imp id (λy=>y.2)
      |_=>exact cS.elim
     rcases this with x|x
     ·exact(dl.ti.kr 0 h.pos l ⟨h.pos,by rw[Dn];exact x,nk⟩ idx a ha gC rH).app u
     ·exact dW idx (dl.ti.kr i hlt l ⟨hlt,by rw[wu];exact x,nk⟩ idx a ha gC rH)
    ·by_cases cT:m=i
     ·subst cT;rw[wH]at cS;have:gI V₁ l:=by
       cases l with
       |cell a'=>exact cS.imp (λx=>(Ay _ x).2) id
       |obj r=>exact(Ay _ cS).2
       |_=>exact cS.elim
      exact(dl.ti.kr m hm l ⟨hm,by rw[wu];exact this,nk⟩ idx a ha gC rH).app u
     ·rw[wI m iM cT]at cS;exact(dl.ti.kr m hm l ⟨hm,cS,nk⟩ idx a ha gC rH).app u
   ·obtain⟨_,cS,nk⟩:=hl;by_cases iM:m=0
    ·subst iM;rw[rZ]at cS;have:jB V l\/jB V₁ l:=by
      cases l with
      |cell a'=>
       have fJ:V.ah a'.block a'.off=none:=by
        cases e:V.ah a'.block a'.off with
        |none=>rfl
        |some x=>exact absurd cS.2 ((uJ _ _).2 (.inl (by rw[e];simp)))
       have us:V₁.ah a'.block a'.off=none:=by
        cases e:V₁.ah a'.block a'.off with
        |none=>rfl
        |some x=>exact absurd cS.2 ((uJ _ _).2 (.inr (by rw[e];simp)))
       exact(Ax _ cS.1).imp (λx=>⟨x,fJ⟩) (λx=>⟨x.2,us⟩)
      |obj r=>exact(Ax _ cS).imp id (λy=>y.2)
      |_=>exact cS.elim
     rcases this with x|x
     ·exact(dl.ti.kw 0 h.pos l ⟨h.pos,by rw[Dn];exact x,nk⟩ idx a ha gC).app u
     ·exact dW idx (dl.ti.kw i hlt l ⟨hlt,by rw[wu];exact x,nk⟩ idx a ha gC)
    ·by_cases cT:m=i
     ·subst cT;rw[wH]at cS;have:jB V₁ l:=by
       cases l with
       |cell a'=>exact⟨(Ay _ cS.1).2,cS.2⟩
       |obj r=>exact(Ay _ cS).2
       |_=>exact cS.elim
      exact(dl.ti.kw m hm l ⟨hm,by rw[wu];exact this,nk⟩ idx a ha gC).app u
     ·rw[wI m iM cT]at cS;exact(dl.ti.kw m hm l ⟨hm,cS,nk⟩ idx a ha gC).app u
  ·by_cases iM:m=0
   ·subst iM;rw[rZ];have e1:=dl.jc 0 h.pos b hb;have e2:=dl.jc i hlt b hb;rw[Dn]at e1;rw[wu]at e2;simp[V',nE,e1,lL,e2]
   ·by_cases cT:m=i
    ·subst cT;rw[wH];have e2:=dl.jc m hm b hb;rw[wu]at e2;simp[lI,e2]
    ·rw[wI m iM cT];exact dl.jc m hm b hb
 refine Inv.mk' (by rw[aW];exact h.pos) (by rw[bc _ _ (by omega)];exact h.k0) (by rw[uo];exact h.d0) (λm x hm hx=> ?_) ?_ ?_ ?_
 ·show (upd K i k' m).is P p.c p.Wg Im (p.Ss.set j S) (UT (t++u) m) x;rw[uo];by_cases cT:m=i
  ·subst cT;rw[aM]at hx;cases hx;rw[bw];have eX:j<p.Ss.length:=(SL.1 hS).1;exact⟨by rw[og];exact hd.symm,hk,S,by simp[W7 eX],rfl⟩
  ·rw[hgo m cT hm]at hx;rw[bc _ _ cT];have Ak:=dg m x hm hx;have Cx:m<gs.size:=(SR.1 hx).1;have aI:(K m).idx≠some j:=λe=>cT (a8 m i j hm Cx hi hlt e xL);cases JW:K m with
   |work j2 h2 V2=>
    rw[JW]at Ak aI;obtain⟨b1,b2,S2,b3,b4⟩:=Ak;exact⟨b1,b2,S2,by rw[T8 (λe=>aI (by rw[e];rfl))];exact b3,b4⟩
   |nJ j2 h2 V2 V3 g2 v2 z2=>
    rw[JW]at Ak aI;obtain⟨b1,b2,b3,b4,sp2,S2,B2,b5,b6⟩:=Ak;exact⟨b1,b2,b3,b4,sp2,S2,B2,by rw[T8 (λe=>aI (by rw[e];rfl))];exact b5,b6⟩
   |_=>rw[JW]at Ak;exact Ak
 ·rw[aW];refine xG.Bx λm hm=> ?_;have fM:iU p gs.size ic (upd K i k') m:=hm;show iU p gs.size ic K m;unfold iU at fM⊢;rw[cX,oS,v5]at fM;exact fM
 ·show Rest p.Wg (t++u) (upd K i k') ic st;have xT:Rest p.Wg t K ic st:=lA;rw[kS]at xT⊢;exact xT.app (λidx a ha hx=> .inr (hx.app (by obtain⟨op,az,_⟩:=UU ha;exact TG az) λm _ _ hm=> .inl (by rw[cX];exact hm))) (λidx a _ ⟨op,az,_,hx⟩ _=>by rw[(jr op az).1]at hx;cases hx)
 ·refine⟨a1,a2,a3,by rw[bP];exact a4,by rw[bP];exact a5,by simpa using a6,λm hm=> ?_,λm m' q b1 b2 b3 b4 b5 b6=>a8 m m' q b1 (aW▸b2) b3 (aW▸b4) (by rw[<- cX];exact b5) (by rw[<- cX];exact b6),λq S2 b1 b2=> ?_,?_⟩
  ·by_cases cT:m=i
   ·subst cT;rw[bw];exact⟨Cf.1,Cf.2.1,Cf.2.2.1,Cf.2.2.2,λx=>by cases x⟩
   ·rw[bc _ _ cT];exact a7 m hm
  ·rw[aW];by_cases hq:q=j
   ·subst hq;exact⟨i,hi,hlt,by rw[cX];exact xL⟩
   ·have IB:p.Ss[q]?=some S2:=by
     have:=b1;rwa [show ({p with Ss:=p.Ss.set j S}:Phase).Ss=p.Ss.set j S from rfl,T8 (Ne.symm hq)]at this
    obtain⟨m,e1,e2,e3⟩:=a9 q S2 IB b2;exact⟨m,e1,e2,by rw[cX];exact e3⟩
  ·show if p.recv=true then _ else _;rw[if_pos aH];refine⟨⟨Ch.1,Ch.2.1,Ch.2.2.1,Ch.2.2.2⟩,c5,by rw[aW];exact c6,s',c7,?_⟩;have hle:(K i).cnt<=sumTo gs.size λi=>(K i).cnt:=Wz (f:=λi=>(K i).cnt) hlt;rw[aW];exact c8.alQ (by omega) lB wa (gF _ (Ne.symm a3))
end
section
variable {P:SI}{n0:Nat}{W0:To}{V:View}{gs gs':Array SG}{w w':To}{sl:Option (Nat×Nat)}{t:Un}{K:Nat->GS}{Im:cm}{ic:Nat}{p:Phase}{st st':Option ec}
theorem Inv.tF(h:Inv P n0 W0 V gs w t K Im ic (some p) st)(aH:p.recv=true){i:Nat}{gi bA:SG}{es:Array Ur}{k':GS}{s':ec}(hi:0<i)(aM:gs[i]?=some gi)(aR:stepG P false gi w=.go bA w' es)
  (hk:k'.is P p.c p.Wg Im p.Ss (deafBehind (UT t i) es) bA) (qa:mo (k'.view Im) ((K i).view Im))
  (xE:k'.mX=true->i=ic) (cX:k'.idx=none) (xK:∀j,(K i).idx=some j->p.Ss[j]?=some []/\∃r,Rel p.Wg (t++Ta i gi.frame.fn gi.frame.place es) i r/\t.size<=r)
  (jT:i=ic\/(K i).idx.isSome=true\/(K i).cnt=1\/(K i).late=1)
  (cg:∀e∈es,∀x,(Tq e).touch?=some x->(qO p.c p.Wg x.loc/\x.kind=.atomic)\/(qO p.c p.Wg x.loc/\x.kind=.said/\i=ic)\/(¬qO p.c p.Wg x.loc/\gI ((K i).view Im) x.loc/\x.write=false))
  (h_:∀e∈es,(Tq e).low w.heap.size) (ry:∀e∈es,∀a,Tq e≠ .mark (.release a))
  (aW:w'.heap.size=w.heap.size) (jo:∀b,b≠p.c->b≠p.Wg->w'.heap[b]?=w.heap[b]?) (ht:w'.tape=w.tape) (ho:w'.os=w.os) (hu:w'.output=w.output)
  (xP:Mode P p.c p.Wg gs.size w' ((gs.map (woken P gi bA w')).setIfInBounds i bA) (t++Ta i gi.frame.fn gi.frame.place es) (upd K i k') ic s')
  (gD:(∃n,w'.heap[p.c]?=some (.chan 0 #[] false n n false))\/((∀j,0<j->j<gs.size->j≠i->(K j).idx=none)/\∀g,nP gs g p.c->j9 ((gs.map (woken P gi bA w')).setIfInBounds i bA) g))
  (lA:Rest p.Wg (t++Ta i gi.frame.fn gi.frame.place es) (upd K i k') ic (some s'))
  (jr:Bg gs.size ((λj=>(upd K i k' j).cZ),flag ((gs.map (woken P gi bA w')).setIfInBounds i bA) ic) ((λj=>(K j).cZ),flag gs ic)):gp P n0 W0 V gs w sl t K Im ic (some p) st i:=by
 have hlt:i<gs.size:=(SR.1 aM).1;obtain⟨_,hc,_,hp⟩:=h.out;obtain⟨a1,a2,a3,a4,a5,a6,a7,a8,a9,bQ⟩:=hp;rw[if_pos aH]at bQ;obtain⟨c1,c2,c3,_⟩:=bQ;have qn:bE V Im K i=(K i).view Im:=by simp[bE];omega
 have Cg:∀j,j<gs.size->jh p (bE V Im K j):=λj _=>by
  by_cases hj:j=0
  ·subst hj;rw[show bE V Im K 0=V by simp[bE]];exact⟨c1.1,c1.2.1,c1.2.2.1,c1.2.2.2⟩
  ·simp only[bE,hj,if_false];exact h.blind (by omega)
 have Q3:mR (some p) gs.size ic K i:=by
  show iU p gs.size ic K i;unfold iU;rw[if_pos aH];exact⟨hi,hlt,by rcases jT with x|x|x|x;exact .inr (.inl x);exact .inl x;exact .inr (.inr (.inl x));exact .inr (.inr (.inr x))⟩
 refine h.aa3 (st':=some s') hi aM aR hk (λhb=> ?_) (λq hq=>by cases hq;exact gD.imp id And.left) ?_ lA ?_ jr ?_
 ·rcases GS.runs hk with x|⟨x,_⟩|⟨_,_,_,_,_,_,_,e⟩|⟨_,_,x⟩
  ·rw[x]at hb;cases hb
  ·rw[x]at hb;cases hb
  ·rw[e]at cX;cases cX
  ·exact x
 ·rw[NN V Im K hi];have db:=hc.tF hlt (es:=es) (w':=w') (λe he x hx=>by
    rcases cg e he x hx with⟨x1,x2⟩|⟨x1,x2,x3⟩|⟨x1,x2,x3⟩
    ·exact .inl ⟨x1,x2,Q3⟩
    ·exact .inr (.inl ⟨x1,x2,x3,Q3⟩)
    ·exact .inr (.inr ⟨x1,.inr (.inl ⟨⟨hlt,by rw[qn];exact x2,x1⟩,x3⟩)⟩)) h_ ry (λb=>b=p.c\/b=p.Wg)
   (λb hb=>by
    rcases hb with rfl|rfl
    ·exact⟨a1,λj hj=>⟨(Cg j hj).1,(Cg j hj).2.1⟩⟩
    ·exact⟨a2,λj hj=>⟨(Cg j hj).2.2.1,(Cg j hj).2.2.2⟩⟩) aW (λb hb=>jo b (λx=>hb (.inl x)) (λx=>hb (.inr x))) ht ho hu gi.frame.fn gi.frame.place
  refine(db.less (V':=k'.view Im) hlt (by rw[qn];exact qa)).Bx λm hm=> ?_;have fM:iU p gs.size ic (upd K i k') m:=hm;show iU p gs.size ic K m;unfold iU at fM⊢;rw[if_pos aH]at fM⊢;by_cases cT:m=i
  ·subst cT;exact⟨hi,hlt,by rcases jT with x|x|x|x;exact .inr (.inl x);exact .inl x;exact .inr (.inr (.inl x));exact .inr (.inr (.inr x))⟩
  ·rw[bc _ _ cT]at fM;exact fM
 ·refine h.MQ (by simp) (by omega) ?_ xE (.inr ⟨cX,λj hj=>(xK j hj).1⟩) ?_
  ·have hb:=h.blind hi;exact⟨(qa.1 _).elim id (λx=>x.trans hb.1),λo=>(qa.2.1 _ o).elim id (λx=>x.trans (hb.2.1 o)),(qa.1 _).elim id (λx=>x.trans hb.2.2.1),λo=>(qa.2.1 _ o).elim id (λx=>x.trans (hb.2.2.2 o))⟩
  ·rw[if_pos aH];exact⟨s',rfl,xP⟩
 ·intro g c Kj;refine⟨Mv hi,λgN _=> ?_⟩;rw[<- Kj p rfl]at gN⊢;rcases gD with x|⟨_,x⟩
  ·exact .inr ⟨MO hi gN x,x⟩
  ·exact .inl (x g gN)
theorem Mode.alP{c Wg N:Nat}{u:Un}{K':Nat->GS}{s:ec}(h:Mode P c Wg N w gs t K ic s)(e1:sumTo N (λi=>(K' i).cnt)=sumTo N λi=>(K i).cnt)(e2:sumTo N (λi=>(K' i).late)=sumTo N λi=>(K i).late)
  (e4:(K' ic).shape=(K ic).shape) (e5:∀i,i<N->((K' i).shape=.load 0\/(K' i).shape=.store 0)->((K i).shape=.load 0\/(K i).shape=.store 0)) (e6:∀i,i<N->(K' i).shape=.mf 0->(K i).shape=.mf 0) (hc:w'.heap[c]?=w.heap[c]?) (hW:w'.heap[Wg]?=w.heap[Wg]?)
  (hr:(∀g,gs[ic]?=some g->g.status=.running)->∀g,gs'[ic]?=some g->g.status=.running):Mode P c Wg N w' gs' (t++u) K' ic s:=by
 have e3:∀st sm,WgAt P Wg w' st sm=WgAt P Wg w st sm:=λst sm=>by unfold WgAt;rw[hW]
 unfold Mode at h⊢;simp only[e1,e2,e3,e4,hc];rcases h with h|h|h|h|h|h|h
 ·exact .inl h
 ·exact .inr (.inl h)
 ·exact .inr (.inr (.inl ⟨h.1,h.2.1,h.2.2.1,h.2.2.2.1,h.2.2.2.2.1,λi hi x=>h.2.2.2.2.2.1 i hi (e5 i hi x),λi hi x=>h.2.2.2.2.2.2 i hi (e6 i hi x)⟩))
 ·exact .inr (.inr (.inr (.inl ⟨h.1,h.2.1,h.2.2.1,h.2.2.2.1,h.2.2.2.2.1,hr h.2.2.2.2.2.1,h.2.2.2.2.2.2⟩)))
 ·exact .inr (.inr (.inr (.inr (.inl h))))
 ·exact .inr (.inr (.inr (.inr (.inr (.inl h)))))
 ·obtain⟨⟨p,n,a,b,c',d⟩,e⟩:=h;exact .inr (.inr (.inr (.inr (.inr (.inr ⟨⟨p,n,a,by rw[X6 (VZ b)];exact b,(Wo (VZ b)).2 c',d⟩,e⟩)))))
theorem Mode.waits{c Wg N:Nat}{s:ec}(h:Mode P c Wg N w gs t K ic s):(K ic).cnt=0/\(K ic).late=0:=by
 rw[<- GS.mY,<- GS.ma];rcases h with h|h|h|h|h|h|h
 ·rcases h.2.2.2.2.2 with⟨_,e,_⟩|⟨_,e,_⟩<;>rw[e]<;>exact⟨rfl,rfl⟩
 ·rcases h.2.2.2.2.2.2 with e|e<;>rw[e]<;>exact⟨rfl,rfl⟩
 ·rcases h.2.2.2.2.1 with e|e<;>rw[e]<;>exact⟨rfl,rfl⟩
 ·rcases h.2.2.2.2.2.2 with e|e<;>rw[e]<;>exact⟨rfl,rfl⟩
 ·rcases h.2.2.2.2.2 with e|e<;>rw[e]<;>exact⟨rfl,rfl⟩
 ·rcases h.2.2.2.2 with e|e<;>rw[e]<;>exact⟨rfl,rfl⟩
 ·rw[h.2.2.2];exact⟨rfl,rfl⟩
theorem yk{i:Nat}{k':GS}{a b:Nat}(hlt:i<gs.size)(hr:qL k'.cZ (K i).cZ):Bg gs.size ((λj=>(upd K i k' j).cZ),a) ((λj=>(K j).cZ),b):=
 .inl ⟨i,hlt,by simpa only[bw]using hr,λj hj=>by show (upd K i k' j).cZ=(K j).cZ;rw[bc _ _ hj]⟩
theorem Inv.mode(h:Inv P n0 W0 V gs w t K Im ic (some p) st)(aH:p.recv=true):∃s,st=some s/\0<ic/\ic<gs.size/\Mode P p.c p.Wg gs.size w gs t K ic s:=by
 have hx:=h.phase.2.2.2.2.2.2.2.2.2;rw[if_pos aH]at hx;obtain⟨_,h1,h2,s,h3,h4⟩:=hx;exact⟨s,h3,h1,h2,h4⟩
theorem ofEvents_one{i:Nat}{fn:TS}{pos:String}{e:Ur}:Ta i fn pos #[e]=#[{g:=i,fn,pos,act:=.ofEvent e}]:=by simp[Ta]
theorem Pm{t u:Un}{g:Nat}:(t++u).deaf g t.size=UT t g:=deaf_old (SQ _)
theorem GF(U:View):mo noView U:=⟨λ_=> .inl rfl,λ_ _=> .inl rfl,λb hb=>absurd rfl hb⟩
theorem Inv.release(h:Inv P n0 W0 V gs w t K Im ic (some p) st)(aH:p.recv=true){i j:Nat}{gi:SG}{hh:Ht}{Vi V₁:View}{c Wg:Nat}(hi:0<i)(aM:gs[i]?=some gi)(hK:K i=.work j hh Vi)(hg:dR Vi V₁)
  (hr:V₁.role=.work c Wg []) (hd:V₁.deaf=0) (hf:Ed P Wg gi):gp P n0 W0 V gs w sl t K Im ic (some p) st i:=by
 have hlt:i<gs.size:=(SR.1 aM).1;have dg:=h.is i gi hi aM;simp only[hK,GS.is]at dg;obtain⟨bx,_,S,hS,i_⟩:=dg;rw[hg.role,i_]at hr;cases hr;have gL:(K i).cnt=1:=by rw[hK];rfl
 obtain⟨⟨n,gD⟩,kS⟩:=h.counted hi hlt gL;obtain⟨s,hs,fZ,iL,hm⟩:=h.mode aH;rw[kS]at hs;cases hs;obtain⟨bI,g',kT,m,cG⟩:=hf;have aI:i≠ic:=λe=>by have:=(Mode.waits hm).1;rw[<- e,gL]at this;cases this
 have a_:UT t i=0:=by rw[bx,<- hg.deaf,hd]
 have rA:Rel p.Wg (t++Ta i gi.frame.fn gi.frame.place #[jQ (.releaseMerge (dT p.Wg))]) i t.size:=by
  rw[ofEvents_one];have e:(#[({g:=i,fn:=gi.frame.fn,pos:=gi.frame.place,act:=.ofEvent (jQ (.releaseMerge (dT p.Wg)))}:V_)]:Un)[0]?=some _:=rfl;have g0:=qX (t:=t) e;exact⟨ae_ g0,by simp[Wx,g0],heard_new e rfl (by rw[show t.size+0=t.size from rfl,Pm];exact a_)⟩
 have nu:∀e∈#[jQ (.releaseMerge (dT p.Wg))],e=jQ (.releaseMerge (dT p.Wg)):=λe he=>by simpa using he
 refine h.tF aH (k':=.add m) (s':=.early) hi aM (kT w) ?_ (by rw[hK];exact GF _) (λx=>by cases x) rfl (λj' iw=> ?_) (.inr (.inr (.inl gL))) (λe he x hx=> ?_) (λe he=> ?_) (λe he a=> ?_) rfl (λ_ _ _=>rfl) rfl rfl rfl ?_ (.inl ⟨n,gD⟩) ?_ (yk hlt ?_)
 ·show cO P (A7 P p.Wg) m _ g';rw[a_];exact cG
 ·rw[hK]at iw;cases iw;exact⟨hS,t.size,rA,SQ _⟩
 ·rw[nu e he]at hx;cases hx
 ·rw[nu e he];exact h.low.2
 ·rw[nu e he];simp[jQ,Tq]
 ·refine hm.alP (kZ K _ GS.cnt (by rw[gL];rfl)) (kZ K _ GS.late (by rw[hK];rfl)) (by rw[bc _ _ (Ne.symm aI)]) (λm hm=> ?_) (λm hm=> ?_) rfl rfl (ab0 hlt ?_)
  ·by_cases cT:m=i
   ·subst cT;rw[bw];intro x;rcases x with x|x<;>cases x
   ·rw[bc _ _ cT];exact id
  ·by_cases cT:m=i
   ·subst cT;rw[bw];intro x;cases x
   ·rw[bc _ _ cT];exact id
  ·exact cO.running (λd g x=>x.2.1) cG
 ·have hr:Rest p.Wg t K ic st:=h.out.2.2.1;rw[kS]at hr;refine hr.app (λidx a ha hx=> .inr (hx.app (by obtain⟨op,az,_⟩:=UU ha;exact TG az) λm vX _ hm=> ?_)) (λidx a _ ⟨op,az,_,hx⟩ _=> ?_)
  ·by_cases cT:m=i
   ·subst cT;exact .inr ⟨t.size,rA,by obtain⟨op,az,_⟩:=UU ha;exact Nat.le_of_lt (TG az)⟩
   ·rw[bc _ _ cT];exact .inl hm
  ·rw[ofEvents_one]at az;simp only[TJ,SK,SZ,or_false]at az;subst az;cases hx
 ·rw[hK];refine .inl ?_;simp only[GS.cZ,i_];omega
def Atom (a:U5)(es:Array Ur):Prop:=es=#[iW a]\/es=#[kI a]\/es=#[iW a,kI a]\/es=AK a
theorem Atom.mem{a:U5}{es:Array Ur}(h:Atom a es){e:Ur}(he:e∈es):e=iW a\/e=kI a\/e=jQ .disable\/e=jQ .enable:=by
 rcases h with rfl|rfl|rfl|rfl<;>simp only[AK,TJ,SK,SZ,or_false]at he
 ·exact .inl he
 ·exact .inr (.inl he)
 ·exact he.imp id .inl
 ·rcases he with x|x|x|x
  ·exact .inr (.inr (.inl x))
  ·exact .inl x
  ·exact .inr (.inl x)
  ·exact .inr (.inr (.inr x))
theorem Atom.behind{a:U5}{es:Array Ur}(h:Atom a es):deafBehind 1 es=1:=by
 rcases h with rfl|rfl|rfl|rfl<;>rfl
theorem Atom.touch{a:U5}{es:Array Ur}(h:Atom a es){e:Ur}(he:e∈es){x:YJ}(hx:(Tq e).touch?=some x):x.loc=.cell a/\x.kind=.atomic:=by
 rcases h.mem he with rfl|rfl|rfl|rfl
 ·cases hx;exact⟨rfl,rfl⟩
 ·cases hx;exact⟨rfl,rfl⟩
 ·cases hx
 ·cases hx
theorem Atom.low{a:U5}{es:Array Ur}(h:Atom a es){n:Nat}(ha:a.block<n){e:Ur}(he:e∈es):(Tq e).low n:=by
 rcases h.mem he with rfl|rfl|rfl|rfl
 ·exact ha
 ·exact ha
 ·trivial
 ·trivial
theorem Atom.norel{a:U5}{es:Array Ur}(h:Atom a es){e:Ur}(he:e∈es)(b:U5):Tq e≠ .mark (.release b):=by
 rcases h.mem he with rfl|rfl|rfl|rfl<;>simp[iW,kI,jQ,Tq]
theorem Atom.arN{a:U5}{es:Array Ur}(h:Atom a es){i:Nat}{fn:TS}{pos:String}(hd:UT t i=1){idx:Nat}{op:V_}{x:YJ}(cX:t.size<=idx)(az:(t++Ta i fn pos es)[idx]?=some op)(hx:op.act.touch?=some x):
  ¬(t++Ta i fn pos es).heard idx:=by
 obtain⟨k,rfl⟩:∃k,idx=t.size+k:=⟨idx-t.size,by omega⟩;have sY:(Ta i fn pos es)[k]?=some op:=by rw[X7 (by omega)]at az;simpa using az
 have aM:op.g=i:=by obtain⟨e,_,rfl⟩:=TL (XS sY);rfl
 rintro⟨g,hg,hz⟩
 have:g=i:=by simp[Wx,az,aM]at hg;exact hg.symm
 subst this;have AR:∀y:V_,y.act=Tq (iW a)\/y.act=Tq (kI a)->still y.act:=λy hy=>by rcases hy with e|e<;>rw[e]<;>exact⟨by simp[iW,kI,Tq],by simp[iW,kI,Tq]⟩
 rcases h with rfl|rfl|rfl|rfl
 ·have:=ua (t:=t) (u:=Ta g fn pos #[iW a]) (g:=g) (λop az=>by obtain⟨e,he,rfl⟩:=TL az;simp only[TJ,SK,SZ,or_false]at he;subst he;exact AR _ (.inl rfl)) (k:=k) (by have:=TG sY;omega);omega
 ·have:=ua (t:=t) (u:=Ta g fn pos #[kI a]) (g:=g) (λop az=>by obtain⟨e,he,rfl⟩:=TL az;simp only[TJ,SK,SZ,or_false]at he;subst he;exact AR _ (.inr rfl)) (k:=k) (by have:=TG sY;omega);omega
 ·have:=ua (t:=t) (u:=Ta g fn pos #[iW a,kI a]) (g:=g) (λop az=>by obtain⟨e,he,rfl⟩:=TL az;simp only[TJ,SK,SZ,or_false]at he;rcases he with rfl|rfl;exact AR _ (.inl rfl);exact AR _ (.inr rfl)) (k:=k) (by have:=TG sY;omega);omega
 ·
  have eu:Ta g fn pos (AK a)=#[{g,fn,pos,act:=.mark .disable},{g,fn,pos,act:=.ofEvent (iW a)},{g,fn,pos,act:=.ofEvent (kI a)},{g,fn,pos,act:=.mark .enable}]:=by simp[Ta,AK,jQ,Tq]
  rw[eu]at sY hz;have d0:(t++#[({g,fn,pos,act:=.mark .disable}:V_),{g,fn,pos,act:=.ofEvent (iW a)},{g,fn,pos,act:=.ofEvent (kI a)},{g,fn,pos,act:=.mark .enable}]).deaf g t.size=1:=by rw[Pm];exact hd
  have d1:=Z_ (g:=g) (qX (t:=t) (show (#[({g,fn,pos,act:=.mark .disable}:V_),{g,fn,pos,act:=.ofEvent (iW a)},{g,fn,pos,act:=.ofEvent (kI a)},{g,fn,pos,act:=.mark .enable}]:Un)[0]?=some _ from rfl));have d2:=Z_ (g:=g) (qX (t:=t) (show (#[({g,fn,pos,act:=.mark .disable}:V_),{g,fn,pos,act:=.ofEvent (iW a)},{g,fn,pos,act:=.ofEvent (kI a)},{g,fn,pos,act:=.mark .enable}]:Un)[1]?=some _ from rfl));have d3:=Z_ (g:=g) (qX (t:=t) (show (#[({g,fn,pos,act:=.mark .disable}:V_),{g,fn,pos,act:=.ofEvent (iW a)},{g,fn,pos,act:=.ofEvent (kI a)},{g,fn,pos,act:=.mark .enable}]:Un)[2]?=some _ from rfl));rw[IR (AR _ (.inl rfl))]at d2;rw[IR (AR _ (.inr rfl))]at d3;simp only[UD]at d1;rw[d0]at d1;have d1:=d1.trans (show deafStep g 1 {g,fn,pos,act:=.mark .disable}=2 by simp[deafStep]);have hk:k<4:=by have:=TG sY;simpa using this
  match k,hk with
  |0,_=>simp at sY;subst sY;cases hx
  |1,_=>rw[d1]at hz;omega
  |2,_=>rw[show t.size+2=t.size+1+1 from rfl,d2,d1]at hz;omega
  |3,_=>simp at sY;subst sY;cases hx
theorem Rest.atom{Wg:Nat}{s:ec}(hr:Rest Wg t K ic (some s)){a:U5}{es:Array Ur}(h:Atom a es){i:Nat}{fn:TS}{pos:String}(hd:UT t i=1){K':Nat->GS}(cX:∀m,(K' m).idx=(K m).idx):Rest Wg (t++Ta i fn pos es) K' ic (some s):=by
 refine hr.app (λidx a ha hx=> .inr (hx.app (by obtain⟨op,az,_⟩:=UU ha;exact TG az) λm _ _ hm=> .inl (by rw[cX];exact hm))) (λidx x hi ⟨op,az,xK,hx⟩ _=> .inr (.inl ⟨?_,h.arN hd hi xK hx⟩));obtain⟨e,he,rfl⟩:=TL az;exact(h.touch he hx).2
theorem WgAt.Hr{Wg:Nat}{a b:Int}(h:WgAt P Wg w a b)(v:Int):WgAt P Wg (w.setCell (dT Wg) (.int .u64 v)) v b:=by
 unfold WgAt at h⊢;unfold Xi;rw[Wd];simp[dT,h,wgBlock]
theorem WgAt.acr{Wg:Nat}{a b:Int}(h:WgAt P Wg w a b)(v:Int):WgAt P Wg (w.setCell (oB Wg) (.int .u32 v)) a v:=by
 unfold WgAt at h⊢;unfold Xi;rw[Wd];simp[oB,h,wgBlock]
theorem WgAt.inj{Wg:Nat}{a b a' b':Int}(h:WgAt P Wg w a b)(k:WgAt P Wg w a' b'):a=a'/\b=b':=by
 unfold WgAt at h k;rw[h]at k;simp[wgBlock]at k;exact k
theorem Inv.Ev(h:Inv P n0 W0 V gs w t K Im ic (some p) st)(aH:p.recv=true){i:Nat}{gi bA:SG}{es:Array Ur}{k':GS}{s:ec}{a:U5}(hs:st=some s)(hi:0<i)(aM:gs[i]?=some gi)(aR:stepG P false gi w=.go bA w' es)(hd:UT t i=1)
  (ha:Atom a es) (zF:a=dT p.Wg\/a=oB p.Wg) (nB:w'=w\/∃x,w'=w.setCell a x) (hk:k'.is P p.c p.Wg Im p.Ss 1 bA) (qa:mo (k'.view Im) ((K i).view Im)) (xE:k'.mX=true->i=ic) (cX:k'.idx=none) (ut:(K i).idx=none)
  (jT:i=ic\/(K i).cnt=1\/(K i).late=1) (gD:∃n,w.heap[p.c]?=some (.chan 0 #[] false n n false))
  (xP:Mode P p.c p.Wg gs.size w' ((gs.map (woken P gi bA w')).setIfInBounds i bA) (t++Ta i gi.frame.fn gi.frame.place es) (upd K i k') ic s) (uB:qL k'.cZ (K i).cZ):gp P n0 W0 V gs w sl t K Im ic (some p) st i:=by
 have hlt:i<gs.size:=(SR.1 aM).1;have vQ:a.block=p.Wg:=by rcases zF with rfl|rfl<;>rfl
 have rh:p.c≠p.Wg:=h.phase.2.2.1;have jo:∀b,b≠p.Wg->w'.heap[b]?=w.heap[b]?:=λb hb=>by
  rcases nB with rfl|⟨x,rfl⟩
  ·rfl
  ·exact vV _ _ _ (by rw[vQ];exact Ne.symm hb)
 have aW:w'.heap.size=w.heap.size:=by rcases nB with rfl|⟨x,rfl⟩;rfl;exact DF _ _ _
 refine h.tF aH hi aM aR (by rw[hd,ha.behind];exact hk) qa xE cX (λj hj=>by rw[ut]at hj;cases hj) (jT.imp id .inr) (λe he x hx=> .inl ?_) (λe he=>ha.low (by rw[vQ];exact h.low.2) he) (λe he b=>ha.norel he b) aW (λb _ hb=>jo b hb)
  (by rcases nB with rfl|⟨x,rfl⟩<;>rfl) (by rcases nB with rfl|⟨x,rfl⟩<;>rfl) (by rcases nB with rfl|⟨x,rfl⟩<;>rfl) xP (.inl (by rw[jo _ rh];exact gD)) ?_ (yk hlt uB)
 ·have:=ha.touch he hx;exact⟨by rw[this.1];exact vQ,this.2⟩
 ·have hr:Rest p.Wg t K ic st:=h.out.2.2.1;rw[hs]at hr;exact hr.atom ha hd λm=>by
   by_cases hm:m=i
   ·subst hm;rw[bw,cX,ut]
   ·rw[bc _ _ hm]
theorem Inv.aeD(h:Inv P n0 W0 V gs w t K Im ic (some p) st)(aH:p.recv=true){i n:Nat}{gi:SG}(hi:0<i)(aM:gs[i]?=some gi)(hK:K i=.add n)(jv:A7 P p.Wg (UT t i) gi):gp P n0 W0 V gs w sl t K Im ic (some p) st i:=by
 have hlt:i<gs.size:=(SR.1 aM).1;obtain⟨s,hs,fZ,iL,hm⟩:=h.mode aH;have gL:(K i).cnt=1:=by rw[hK];rfl
 have eY:(K i).late=0:=by rw[hK];rfl
 have ut:(K i).idx=none:=by rw[hK];rfl
 have gD:=(h.counted hi hlt gL).1;have aI:ic≠i:=λe=>by have:=(Mode.waits hm).1;rw[e,gL]at this;cases this
 obtain⟨hd,bI,F_⟩:=jv;have hle:(K i).cnt<=sumTo gs.size λi=>(K i).cnt:=Wz (f:=λi=>(K i).cnt) hlt;have rh:p.c≠p.Wg:=h.phase.2.2.1;have hq:∀(k':GS),sumTo gs.size (λa=>(upd K i k' a).cnt)+(K i).cnt=sumTo gs.size (λa=>(K a).cnt)+k'.cnt:=λk'=>AT K k' GS.cnt hlt;have s7:∀(k':GS),sumTo gs.size (λa=>(upd K i k' a).late)+(K i).late=sumTo gs.size (λa=>(K a).late)+k'.late:=λk'=>AT K k' GS.late hlt;have qa:∀k':GS,k'.view Im=noView->mo (k'.view Im) ((K i).view Im):=λk' e=>by rw[e];exact GF _
 have leave:∀(wt v:Nat),wt<=1->v+1=(sumTo gs.size λi=>(K i).cnt)->v<4->¬(v=0/\wt=1)->s=.early->(sumTo gs.size λi=>(K i).late)=0->WgAt P p.Wg w (((v+1:Nat):Int)* KK+wt) 0->
   ((wt=0/\((∃k,(K ic).shape=.head k 0/\v<k)\/(∃u,(K ic).shape=.lU u 0/\v<=u/\0<u)))\/(wt=1/\((K ic).shape=.said 0\/(K ic).shape=.gZ 0)))->gp P n0 W0 V gs w sl t K Im ic (some p) st i:=by
  intro wt v uG hv Gd fi St ati hW aX;obtain⟨g',aR,_,l5⟩:=F_ v wt uG Gd;obtain⟨q,l5⟩:=l5 fi;have CG:=hq (.gone q);have CF:=s7 (.gone q);simp only[gL,eY]at CG CF;rw[show (GS.gone q).cnt=0 from rfl]at CG;rw[show (GS.gone q).late=0 from rfl]at CF;refine h.Ev aH (k':=.gone q) (a:=dT p.Wg) hs hi aM (aR w hW) hd (.inr (.inr (.inl rfl))) (.inl rfl) (.inr ⟨_,rfl⟩) l5 (qa _ rfl) (λx=>by cases x) rfl ut (.inr (.inl gL)) gD ?_ (by rw[hK];exact .inl (by simp[GS.cZ]));have vJ:=hW.Hr ((v:Int)* KK+wt);unfold Mode;simp only[bc _ _ aI];have I7:sumTo gs.size (λa=>(upd K i (.gone q) a).cnt)=v:=by omega
  have I_:sumTo gs.size (λa=>(upd K i (.gone q) a).late)=0:=by omega
  simp only[I7,I_];have ho:∃n,(w.setCell (dT p.Wg) (.int .u64 ((v:Int)* KK+wt))).heap[p.c]?=some (.chan 0 #[] false n n false):=by
   obtain⟨n,hn⟩:=gD;exact⟨n,by rw[vV _ _ _ (Ne.symm rh)];exact hn⟩
  rcases aX with⟨rfl,aX⟩|⟨rfl,aX⟩
  ·exact .inl ⟨ho,St,trivial,by omega,by simpa using vJ,aX⟩
  ·exact .inr (.inl ⟨ho,St,trivial,by omega,by omega,by simpa using vJ,aX⟩)
 unfold Mode at hm;rcases hm with m|m|m|m|m|m|m
 ·obtain⟨m1,m2,m3,m4,m5,m6⟩:=m;refine leave 0 ((sumTo gs.size λi=>(K i).cnt)-1) (by omega) (by omega) (by omega) (by omega) m2 m3 ?_ (.inl ⟨rfl,?_⟩)
  ·rw[show (sumTo gs.size λi=>(K i).cnt)-1+1=(sumTo gs.size λi=>(K i).cnt) by omega];simpa using m5
  ·rcases m6 with⟨k,e1,e2⟩|⟨u,e1,e2,e3⟩
   ·exact .inl ⟨k,e1,by omega⟩
   ·exact .inr ⟨u,e1,by omega,e3⟩
 ·obtain⟨m1,m2,m3,m4,m5,m6,m7⟩:=m;by_cases hv:(sumTo gs.size λi=>(K i).cnt)=1
  ·
   obtain⟨g',aR,hO,_⟩:=F_ 0 1 (by omega) (by omega);obtain⟨n',hO⟩:=hO ⟨rfl,rfl⟩;have CG:=hq (.load n');have CF:=s7 (.load n');simp only[gL,eY]at CG CF;rw[show (GS.load n').cnt=0 from rfl]at CG;rw[show (GS.load n').late=1 from rfl]at CF;rw[hv]at m6;have hW:WgAt P p.Wg w (((0+1:Nat):Int)* KK+(1:Nat)) 0:=(by simpa using m6);refine h.Ev aH (k':=.load n') (a:=dT p.Wg) hs hi aM (aR w hW) hd (.inr (.inr (.inl rfl))) (.inl rfl) (.inr ⟨_,rfl⟩) hO (qa _ rfl) (λx=>by cases x) rfl ut (.inr (.inl gL)) gD ?_ (by rw[hK];exact .inl (by simp[GS.cZ]));have vJ:=hW.Hr (((0:Nat):Int)* KK+(1:Nat));unfold Mode;simp only[bc _ _ aI];have I7:sumTo gs.size (λa=>(upd K i (.load n') a).cnt)=0:=(by omega);have I_:sumTo gs.size (λa=>(upd K i (.load n') a).late)=1:=(by omega);simp only[I7,I_];have ho:∃n,(w.setCell (dT p.Wg) (.int .u64 (((0:Nat):Int)* KK+(1:Nat)))).heap[p.c]?=some (.chan 0 #[] false n n false):=by
    obtain⟨n,hn⟩:=gD;exact⟨n,by rw[vV _ _ _ (Ne.symm rh)];exact hn⟩
   refine .inr (.inr (.inl ⟨ho,m2,trivial,trivial,m7,λ_ _ _=>by simpa using vJ,λm hm qh=> ?_⟩));exfalso;have cT:m≠i:=λe=>(by subst e;rw[bw]at qh;cases qh);rw[bc _ _ cT]at qh;have RO:(K m).late<=sumTo gs.size λi=>(K i).late:=Wz (f:=λi=>(K i).late) hm;rw[m3,<- GS.ma,qh]at RO;simp[GS.late]at RO
  ·refine leave 1 ((sumTo gs.size λi=>(K i).cnt)-1) (by omega) (by omega) (by omega) (by omega) m2 m3 ?_ (.inr ⟨rfl,m7⟩);rw[show (sumTo gs.size λi=>(K i).cnt)-1+1=(sumTo gs.size λi=>(K i).cnt) by omega];simpa using m6
 ·have:=m.2.2.2.1;omega
 ·have:=m.2.2.2.1;omega
 ·have:=m.2.2.2.1;omega
 ·have:=m.2.2.2.1;omega
 ·have:=m.2.2.1;omega
theorem Mode.C5{c Wg N:Nat}{s:ec}(hm:Mode P c Wg N w gs t K ic s){i:Nat}(hlt:i<N)(eY:(K i).late=1):
  (∃n,w.heap[c]?=some (.chan 0 #[] false n n false))/\s=.early/\(sumTo N λi=>(K i).late)=1/\(sumTo N λi=>(K i).cnt)=0/\((K ic).shape=.said 0\/(K ic).shape=.gZ 0)/\
  (((K i).shape=.load 0\/(K i).shape=.store 0)->WgAt P Wg w 1 0)/\((K i).shape=.mf 0->WgAt P Wg w 0 0):=by
 have hle:(K i).late<=sumTo N λi=>(K i).late:=Wz (f:=λi=>(K i).late) hlt;unfold Mode at hm;rcases hm with m|m|m|m|m|m|m
 ·have:=m.2.2.1;omega
 ·have:=m.2.2.1;omega
 ·exact⟨m.1,m.2.1,m.2.2.1,m.2.2.2.1,m.2.2.2.2.1,m.2.2.2.2.2.1 i hlt,m.2.2.2.2.2.2 i hlt⟩
 ·have:=m.2.2.1;omega
 ·have:=m.2.2.1;omega
 ·have:=m.2.2.1;omega
 ·have:=m.2.1;omega
theorem abq{N:Nat}(h:(sumTo N λi=>(K i).late)=1){i m:Nat}(hi:i<N)(hm:m<N)(aI:m≠i)(eY:(K i).late=1):(K m).late=0:=by
 have:=AT K (.gone 0) GS.late hi;have h2:((upd K i (.gone 0)) m).late<=sumTo N λa=>(upd K i (.gone 0) a).late:=Wz (f:=λa=>(upd K i (.gone 0) a).late) hm;rw[bc _ _ aI]at h2;simp only[eY,h,show (GS.gone 0).late=0 from rfl]at this;omega
theorem Inv.Mi(h:Inv P n0 W0 V gs w t K Im ic (some p) st)(aH:p.recv=true){i:Nat}{gi bA:SG}{es:Array Ur}{k':GS}{a:U5}(hi:0<i)(aM:gs[i]?=some gi)(aR:stepG P false gi w=.go bA w' es)(hd:UT t i=1)
  (ha:Atom a es) (zF:a=dT p.Wg\/a=oB p.Wg) (nB:w'=w\/∃x,w'=w.setCell a x) (hk:k'.is P p.c p.Wg Im p.Ss 1 bA) (hv:k'.view Im=noView) (cX:k'.idx=none) (ut:(K i).idx=none) (oS:(K i).cnt=0) (ajN:k'.cnt=0) (xE:k'.mX=false) (eY:(K i).late=1)
  (sQ:(k'.late=1/\((k'.shape=.load 0\/k'.shape=.store 0)->WgAt P p.Wg w' 1 0)/\(k'.shape=.mf 0->WgAt P p.Wg w' 0 0))\/
   (k'.late=0/\WgAt P p.Wg w' 0 1/\∀g,((gs.map (woken P gi bA w')).setIfInBounds i bA)[ic]?=some g->g.status=.running)) (uB:qL k'.cZ (K i).cZ):gp P n0 W0 V gs w sl t K Im ic (some p) st i:=by
 have hlt:i<gs.size:=(SR.1 aM).1;obtain⟨s,hs,fZ,iL,hm⟩:=h.mode aH;obtain⟨m1,m2,m3,m4,m5,m6,m7⟩:=hm.C5 hlt eY;have aI:ic≠i:=λe=>by have:=(Mode.waits hm).2;rw[e,eY]at this;cases this
 have rh:p.c≠p.Wg:=h.phase.2.2.1;have vQ:a.block=p.Wg:=by rcases zF with rfl|rfl<;>rfl
 have jo:∀b,b≠p.Wg->w'.heap[b]?=w.heap[b]?:=λb hb=>by
  rcases nB with rfl|⟨x,rfl⟩
  ·rfl
  ·exact vV _ _ _ (by rw[vQ];exact Ne.symm hb)
 refine h.Ev aH hs hi aM aR hd ha zF nB hk (by rw[hv];exact GF _) (λx=>by rw[xE]at x;cases x) cX ut (.inr (.inr eY)) m1 ?_ uB;have e1:sumTo gs.size (λa=>(upd K i k' a).cnt)=0:=by have:=AT K k' GS.cnt hlt;simp only[oS,ajN,m4]at this;omega
 unfold Mode;simp only[bc _ _ aI,e1,jo _ rh];rcases sQ with⟨x1,x2,x3⟩|⟨x1,x2,x3⟩
 ·have e2:sumTo gs.size (λa=>(upd K i k' a).late)=1:=by have:=AT K k' GS.late hlt;simp only[eY,x1,m3]at this;omega
  refine .inr (.inr (.inl ⟨m1,m2,e2,trivial,m5,λm hm db=> ?_,λm hm db=> ?_⟩))
  ·by_cases cT:m=i
   ·subst cT;rw[bw]at db;exact x2 db
   ·rw[bc _ _ cT]at db;have:=abq m3 hlt hm cT eY;rw[<- GS.ma]at this;rcases db with e|e<;>rw[e]at this<;>cases this
  ·by_cases cT:m=i
   ·subst cT;rw[bw]at db;exact x3 db
   ·rw[bc _ _ cT]at db;have:=abq m3 hlt hm cT eY;rw[<- GS.ma,db]at this;cases this
 ·have e2:sumTo gs.size (λa=>(upd K i k' a).late)=0:=by have:=AT K k' GS.late hlt;simp only[eY,x1,m3]at this;omega
  exact .inr (.inr (.inr (.inl ⟨m1,m2,e2,trivial,x2,x3,m5⟩)))
theorem Inv.amE(h:Inv P n0 W0 V gs w t K Im ic (some p) st)(aH:p.recv=true){i n:Nat}{gi:SG}(hi:0<i)(aM:gs[i]?=some gi)(hK:K i=.load n)(jv:D7 P p.Wg (UT t i) gi):gp P n0 W0 V gs w sl t K Im ic (some p) st i:=by
 have hlt:i<gs.size:=(SR.1 aM).1;obtain⟨s,hs,fZ,iL,hm⟩:=h.mode aH;have eY:(K i).late=1:=by rw[hK];rfl
 obtain⟨m1,m2,m3,m4,m5,m6,m7⟩:=hm.C5 hlt eY;obtain⟨hd,bI,g',aR,n',cG⟩:=jv;have hW:=m6 (by rw[hK];exact .inl rfl);exact h.Mi aH (k':=.store n') (a:=dT p.Wg) hi aM (aR w hW) hd (.inl rfl) (.inl rfl) (.inl rfl) cG rfl rfl (by rw[hK];rfl) (by rw[hK];rfl) rfl rfl eY (.inl ⟨rfl,λ_=>hW,λx=>by cases x⟩) (by rw[hK];exact .inl (by simp[GS.cZ]))
theorem Inv.aqO(h:Inv P n0 W0 V gs w t K Im ic (some p) st)(aH:p.recv=true){i n:Nat}{gi:SG}(hi:0<i)(aM:gs[i]?=some gi)(hK:K i=.store n)(jv:D9 P p.Wg (UT t i) gi):gp P n0 W0 V gs w sl t K Im ic (some p) st i:=by
 have hlt:i<gs.size:=(SR.1 aM).1;obtain⟨s,hs,fZ,iL,hm⟩:=h.mode aH;have eY:(K i).late=1:=by rw[hK];rfl
 obtain⟨m1,m2,m3,m4,m5,m6,m7⟩:=hm.C5 hlt eY;obtain⟨hd,bI,g',aR,n',cG⟩:=jv;have hW:=m6 (by rw[hK];exact .inr rfl);exact h.Mi aH (k':=.mf n') (a:=dT p.Wg) hi aM (aR w hW) hd (.inr (.inl rfl)) (.inl rfl) (.inr ⟨_,rfl⟩) cG rfl rfl (by rw[hK];rfl) (by rw[hK];rfl) rfl rfl eY (.inl ⟨rfl,λx=>(x.elim (λy=>by cases y) (λy=>by cases y)),λ_=>hW.Hr 0⟩) (by rw[hK];exact .inl (by simp[GS.cZ]))
theorem Inv.ap1(h:Inv P n0 W0 V gs w t K Im ic (some p) st)(aH:p.recv=true){i n:Nat}{gi:SG}(hi:0<i)(aM:gs[i]?=some gi)(hK:K i=.mf n)(jv:D8 P p.Wg (UT t i) gi):gp P n0 W0 V gs w sl t K Im ic (some p) st i:=by
 have hlt:i<gs.size:=(SR.1 aM).1;obtain⟨s,hs,fZ,iL,hm⟩:=h.mode aH;have eY:(K i).late=1:=by rw[hK];rfl
 obtain⟨m1,m2,m3,m4,m5,m6,m7⟩:=hm.C5 hlt eY;obtain⟨hd,bI,KY,g',aR,q,l5⟩:=jv;have hW:=m7 (by rw[hK];rfl);have aI:ic≠i:=λe=>by have:=(Mode.waits hm).2;rw[e,eY]at this;cases this
 refine h.Mi aH (k':=.gone q) (a:=oB p.Wg) hi aM (aR w hW) hd (.inr (.inr (.inr rfl))) (.inr rfl) (.inr ⟨_,rfl⟩) l5 rfl rfl (by rw[hK];rfl) (by rw[hK];rfl) rfl rfl eY (.inr ⟨rfl,hW.acr 1,λg hg=> ?_⟩) (by rw[hK];exact .inl (by simp[GS.cZ]));rcases getElem?_next hlt hg with⟨e,_⟩|⟨_,y,hy,rfl⟩
 ·exact absurd e aI
 ·have xM:=h.is ic y fZ hy;simp only at xM;have db:(∃n,K ic=.said n)\/∃n,K ic=.gZ n:=by
   cases xv:K ic<;>rw[xv]at m5<;>simp[GS.shape]at m5
   ·exact .inl ⟨_,rfl⟩
   ·exact .inr ⟨_,rfl⟩
  rcases db with⟨n1,e⟩|⟨n1,e⟩
  ·rw[e]at xM;have hr:y.status=.running:=gX.running (λd g x=>x.2.1) xM;rw[Yl hr];exact hr
  ·rw[e]at xM;rcases xM with xM|⟨_,g1,rfl,Ky⟩
   ·have hr:y.status=.running:=cO.running (λd g x=>x.2.1) xM;rw[Yl hr];exact hr
   ·have KE:g'.status=.running\/g'.status=.finished:=ZD l5;unfold woken;have ajM:(mayWake P gi&&g'.status != .blocked&&g'.status != .waiting)=true:=(by rcases KE with hs|hs<;>simp[KY,hs]);rw[if_pos ajM];unfold YT;have:=Ky.2.2.1;simp[this]
theorem Mode.afb{c Wg N k:Nat}{s:ec}(hm:Mode P c Wg N w gs t K ic s)(e:(K ic).shape=.head k 0):
  (∃n,w.heap[c]?=some (.chan 0 #[] false n n false))/\s=.early/\(sumTo N λi=>(K i).late)=0/\(sumTo N λi=>(K i).cnt)<=4/\WgAt P Wg w (((sumTo N λi=>(K i).cnt:Nat):Int)* KK) 0/\(sumTo N λi=>(K i).cnt)<k:=by
 unfold Mode at hm;simp only[e]at hm;rcases hm with m|m|m|m|m|m|m
 ·obtain⟨a,b,c,d,f,x⟩:=m;refine⟨a,b,c,d,f,?_⟩;rcases x with⟨k',x,y⟩|⟨v,x,_⟩
  ·cases x;exact y
  ·cases x
 ·rcases m.2.2.2.2.2.2 with x|x<;>cases x
 ·rcases m.2.2.2.2.1 with x|x<;>cases x
 ·rcases m.2.2.2.2.2.2 with x|x<;>cases x
 ·rcases m.2.2.2.2.2 with x|x<;>cases x
 ·rcases m.2.2.2.2 with x|x<;>cases x
 ·cases m.2.2.2
theorem Mode.afa{c Wg N v:Nat}{s:ec}(hm:Mode P c Wg N w gs t K ic s)(e:(K ic).shape=.lU v 0):
  (∃n,w.heap[c]?=some (.chan 0 #[] false n n false))/\s=.early/\(sumTo N λi=>(K i).late)=0/\(sumTo N λi=>(K i).cnt)<=4/\WgAt P Wg w (((sumTo N λi=>(K i).cnt:Nat):Int)* KK) 0/\(sumTo N λi=>(K i).cnt)<=v/\0<v:=by
 unfold Mode at hm;simp only[e]at hm;rcases hm with m|m|m|m|m|m|m
 ·obtain⟨a,b,c,d,f,x⟩:=m;refine⟨a,b,c,d,f,?_⟩;rcases x with⟨k',x,y⟩|⟨v,x,y⟩
  ·cases x
  ·cases x;exact y
 ·rcases m.2.2.2.2.2.2 with x|x<;>cases x
 ·rcases m.2.2.2.2.1 with x|x<;>cases x
 ·rcases m.2.2.2.2.2.2 with x|x<;>cases x
 ·rcases m.2.2.2.2.2 with x|x<;>cases x
 ·rcases m.2.2.2.2 with x|x<;>cases x
 ·cases m.2.2.2
theorem Mode.Ox{c Wg N:Nat}{s:ec}(hm:Mode P c Wg N w gs t K ic s)(e:(K ic).shape=.last 0\/(K ic).shape=.acq 0):
  (∃n,w.heap[c]?=some (.chan 0 #[] false n n false))/\s=.early/\(sumTo N λi=>(K i).late)=0/\(sumTo N λi=>(K i).cnt)=0/\WgAt P Wg w 0 0:=by
 unfold Mode at hm;rcases hm with m|m|m|m|m|m|m
 ·rcases m.2.2.2.2.2 with⟨_,x,_⟩|⟨_,x,_⟩<;>rcases e with e|e<;>rw[e]at x<;>cases x
 ·rcases m.2.2.2.2.2.2 with x|x<;>rcases e with e|e<;>rw[e]at x<;>cases x
 ·rcases m.2.2.2.2.1 with x|x<;>rcases e with e|e<;>rw[e]at x<;>cases x
 ·rcases m.2.2.2.2.2.2 with x|x<;>rcases e with e|e<;>rw[e]at x<;>cases x
 ·exact⟨m.1,m.2.1,m.2.2.1,m.2.2.2.1,m.2.2.2.2.1⟩
 ·rcases m.2.2.2.2 with x|x<;>rcases e with e|e<;>rw[e]at x<;>cases x
 ·have x:=m.2.2.2;rcases e with e|e<;>rw[e]at x<;>cases x
theorem Mode.Oy{c Wg N:Nat}{s:ec}(hm:Mode P c Wg N w gs t K ic s)(e:(K ic).shape=.look 0\/(K ic).shape=.close 0):
  (∃n,w.heap[c]?=some (.chan 0 #[] false n n false))/\s=.got/\(sumTo N λi=>(K i).late)=0/\(sumTo N λi=>(K i).cnt)=0:=by
 unfold Mode at hm;rcases hm with m|m|m|m|m|m|m
 ·rcases m.2.2.2.2.2 with⟨_,x,_⟩|⟨_,x,_⟩<;>rcases e with e|e<;>rw[e]at x<;>cases x
 ·rcases m.2.2.2.2.2.2 with x|x<;>rcases e with e|e<;>rw[e]at x<;>cases x
 ·rcases m.2.2.2.2.1 with x|x<;>rcases e with e|e<;>rw[e]at x<;>cases x
 ·rcases m.2.2.2.2.2.2 with x|x<;>rcases e with e|e<;>rw[e]at x<;>cases x
 ·rcases m.2.2.2.2.2 with x|x<;>rcases e with e|e<;>rw[e]at x<;>cases x
 ·exact⟨m.1,m.2.1,m.2.2.1,m.2.2.2.1⟩
 ·have x:=m.2.2.2;rcases e with e|e<;>rw[e]at x<;>cases x
theorem Mode.Oz{c Wg N:Nat}{s:ec}(hm:Mode P c Wg N w gs t K ic s)(e:(K ic).shape=.said 0\/(K ic).shape=.gZ 0):
  (∃n,w.heap[c]?=some (.chan 0 #[] false n n false))/\s=.early/\((∃st,WgAt P Wg w st 0)\/((sumTo N λi=>(K i).late)=0/\(sumTo N λi=>(K i).cnt)=0/\WgAt P Wg w 0 1))/\
  ∀{w':To}{gs':Array SG}{u:Un}{k':GS},(k'.shape=.said 0\/k'.shape=.gZ 0)->w'.heap[c]?=w.heap[c]?->w'.heap[Wg]?=w.heap[Wg]?->(WgAt P Wg w 0 1->∀g,gs'[ic]?=some g->g.status=.running)->ic<N->Mode P c Wg N w' gs' (t++u) (upd K ic k') ic s:=by
 have wait:∀{k:GS},(k.shape=.said 0\/k.shape=.gZ 0)->k.cnt=0/\k.late=0:=λ{k} h=>by rw[<- GS.mY,<- GS.ma];rcases h with h|h<;>rw[h]<;>exact⟨rfl,rfl⟩
 have tail:∀(w':To)(gs':Array SG)(u:Un)(k':GS),(k'.shape=.said 0\/k'.shape=.gZ 0)->w'.heap[c]?=w.heap[c]?->w'.heap[Wg]?=w.heap[Wg]?->(WgAt P Wg w 0 1->∀g,gs'[ic]?=some g->g.status=.running)->ic<N->Mode P c Wg N w' gs' (t++u) (upd K ic k') ic s:=by
  intro w' gs' u k' hk hc hW hr fK;have e1:sumTo N (λi=>(upd K ic k' i).cnt)=sumTo N λi=>(K i).cnt:=kZ K k' GS.cnt (by rw[(wait hk).1,(wait e).1]);have e2:sumTo N (λi=>(upd K ic k' i).late)=sumTo N λi=>(K i).late:=kZ K k' GS.late (by rw[(wait hk).2,(wait e).2]);have e3:∀st sm,WgAt P Wg w' st sm=WgAt P Wg w st sm:=λst sm=>by unfold WgAt;rw[hW]
  have e5:∀i (q:GS),(q=.load 0\/q=.store 0\/q=.mf 0)->(upd K ic k' i).shape=q->(K i).shape=q:=λi q hq hs=>by
   by_cases hi:i=ic
   ·subst hi;rw[bw]at hs;rcases hk with x|x<;>rw[x]at hs<;>subst hs<;>rcases hq with y|y|y<;>cases y
   ·rw[bc _ _ hi]at hs;exact hs
  unfold Mode at hm⊢;simp only[e1,e2,e3,hc,bw];rcases hm with m|m|m|m|m|m|m
  ·rcases m.2.2.2.2.2 with⟨_,x,_⟩|⟨_,x,_⟩<;>rcases e with e|e<;>rw[e]at x<;>cases x
  ·exact .inr (.inl ⟨m.1,m.2.1,m.2.2.1,m.2.2.2.1,m.2.2.2.2.1,m.2.2.2.2.2.1,hk⟩)
  ·exact .inr (.inr (.inl ⟨m.1,m.2.1,m.2.2.1,m.2.2.2.1,hk,λi hi x=>m.2.2.2.2.2.1 i hi (x.imp (e5 i _ (.inl rfl)) (e5 i _ (.inr (.inl rfl)))),λi hi x=>m.2.2.2.2.2.2 i hi (e5 i _ (.inr (.inr rfl)) x)⟩))
  ·exact .inr (.inr (.inr (.inl ⟨m.1,m.2.1,m.2.2.1,m.2.2.2.1,m.2.2.2.2.1,hr m.2.2.2.2.1,hk⟩)))
  ·rcases m.2.2.2.2.2 with x|x<;>rcases e with e|e<;>rw[e]at x<;>cases x
  ·rcases m.2.2.2.2 with x|x<;>rcases e with e|e<;>rw[e]at x<;>cases x
  ·have x:=m.2.2.2;rcases e with e|e<;>rw[e]at x<;>cases x
 have iM:=hm;unfold Mode at hm;rcases hm with m|m|m|m|m|m|m
 ·rcases m.2.2.2.2.2 with⟨_,x,_⟩|⟨_,x,_⟩<;>rcases e with e|e<;>rw[e]at x<;>cases x
 ·exact⟨m.1,m.2.1,.inl ⟨_,m.2.2.2.2.2.1⟩,λ{w'} {gs'} {u} {k'}=>tail w' gs' u k'⟩
 ·refine⟨m.1,m.2.1,.inl ?_,λ{w'} {gs'} {u} {k'}=>tail w' gs' u k'⟩;have:∃i,i<N/\(K i).late=1:=by
   apply Tt;intro fi;have hz:sumTo N (λi=>(K i).late)=sumTo N λ_=>0:=Vl λi hi=>by
    have aI:¬(K i).late=1:=λx=>fi ⟨i,hi,x⟩;cases kJ:K i<;>rw[kJ]at aI<;>first|rfl|exact absurd rfl aI
   have h0:sumTo N (λ_=>0)=0:=by
    have:∀N,sumTo N (λ_=>0)=0:=λN=>(by induction N with|zero=>rfl|succ N ih=>simp[sumTo,ih]);exact this N
   have:=m.2.2.1;omega
  obtain⟨i,hi,eY⟩:=this;obtain⟨_,_,_,_,_,m6,m7⟩:=iM.C5 hi eY;cases kJ:K i<;>rw[kJ]at eY m6 m7<;>simp[GS.late]at eY
  ·exact⟨1,m6 (.inl rfl)⟩
  ·exact⟨1,m6 (.inr rfl)⟩
  ·exact⟨0,m7 rfl⟩
 ·exact⟨m.1,m.2.1,.inr ⟨m.2.2.1,m.2.2.2.1,m.2.2.2.2.1⟩,λ{w'} {gs'} {u} {k'}=>tail w' gs' u k'⟩
 ·rcases m.2.2.2.2.2 with x|x<;>rcases e with e|e<;>rw[e]at x<;>cases x
 ·rcases m.2.2.2.2 with x|x<;>rcases e with e|e<;>rw[e]at x<;>cases x
 ·have x:=m.2.2.2;rcases e with e|e<;>rw[e]at x<;>cases x
theorem GD(Im:cm):mo {noView with ah:=Im} {noView with ah:=Im}:=⟨λ_=> .inr rfl,λ_ _=> .inr rfl,λ_ _ _=>rfl⟩
theorem amp(Im:cm):mo noView {noView with ah:=Im}:=⟨λ_=> .inr rfl,λ_ _=> .inl rfl,λb hb=>absurd rfl hb⟩
theorem Inv.zf(h:Inv P n0 W0 V gs w t K Im ic (some p) st)(aH:p.recv=true){gi bA:SG}{es:Array Ur}{k':GS}{a:U5}{s:ec}(hs:st=some s)(aM:gs[ic]?=some gi)(aR:stepG P false gi w=.go bA w' es)(hd:UT t ic=1)
  (ha:Atom a es) (zF:a=dT p.Wg\/a=oB p.Wg) (nB:w'=w\/∃x,w'=w.setCell a x) (hk:k'.is P p.c p.Wg Im p.Ss 1 bA) (hv:k'.view Im={noView with ah:=Im}) (x6:(K ic).view Im={noView with ah:=Im}) (cX:k'.idx=none) (ut:(K ic).idx=none)
  (gD:∃n,w.heap[p.c]?=some (.chan 0 #[] false n n false))
  (xP:Mode P p.c p.Wg gs.size w' ((gs.map (woken P gi bA w')).setIfInBounds ic bA) (t++Ta ic gi.frame.fn gi.frame.place es) (upd K ic k') ic s) (uB:qL k'.cZ (K ic).cZ):gp P n0 W0 V gs w sl t K Im ic (some p) st ic:=by
 obtain⟨s',_,fZ,_,_⟩:=h.mode aH;exact h.Ev aH hs fZ aM aR hd ha zF nB hk (by rw[hv,x6];exact GD Im) (λ_=>rfl) cX ut (.inl rfl) gD xP uB
theorem Inv.aj7(h:Inv P n0 W0 V gs w t K Im ic (some p) st)(aH:p.recv=true){k n:Nat}{gi:SG}(aM:gs[ic]?=some gi)(hK:K ic=.head k n)(jv:ez P Im p.c p.Wg k (UT t ic) gi):gp P n0 W0 V gs w sl t K Im ic (some p) st ic:=by
 obtain⟨s,hs,fZ,iL,hm⟩:=h.mode aH;obtain⟨m1,m2,m3,m4,m5,m6⟩:=hm.afb (k:=k) (by rw[hK];rfl);obtain⟨k,rfl⟩:∃k',k=k'+1:=⟨k-1,by omega⟩;obtain⟨hd,bI,F_⟩:=ez.succ _ _ _ _ jv;obtain⟨g',aR,hz,K3⟩:=F_ _ (by omega) m4;have lC:=aR w m5;have t_:∀k':GS,k'.cnt=0->k'.late=0->sumTo gs.size (λi=>(upd K ic k' i).cnt)=(sumTo gs.size λi=>(K i).cnt)/\sumTo gs.size (λi=>(upd K ic k' i).late)=(sumTo gs.size λi=>(K i).late):=λk' h1 h2=>
  ⟨kZ K k' GS.cnt (by rw[h1,hK];rfl),kZ K k' GS.late (by rw[h2,hK];rfl)⟩
 by_cases hv:(sumTo gs.size λi=>(K i).cnt)=0
 ·obtain⟨n',cG⟩:=hz hv;refine h.zf aH (k':=.acq n') (a:=dT p.Wg) hs aM lC hd (.inl rfl) (.inl rfl) (.inl rfl) cG rfl (by rw[hK];rfl) rfl (by rw[hK];rfl) m1 ?_ (by rw[hK];exact .inl (by simp[GS.cZ];omega));unfold Mode;simp only[(t_ (.acq n') rfl rfl).1,(t_ (.acq n') rfl rfl).2,bw];refine .inr (.inr (.inr (.inr (.inl ⟨m1,m2,m3,hv,?_,.inr rfl⟩))));rw[hv]at m5;simpa using m5
 ·obtain⟨n',cG⟩:=K3 hv;refine h.zf aH (k':=.lU (sumTo gs.size λi=>(K i).cnt) n') (a:=dT p.Wg) hs aM lC hd (.inl rfl) (.inl rfl) (.inl rfl) cG rfl (by rw[hK];rfl) rfl (by rw[hK];rfl) m1 ?_ (by rw[hK];exact .inl (by simp[GS.cZ];omega));unfold Mode;simp only[(t_ (.lU _ n') rfl rfl).1,(t_ (.lU _ n') rfl rfl).2,bw];exact .inl ⟨m1,m2,m3,m4,m5,.inr ⟨_,rfl,SQ _,by omega⟩⟩
theorem Inv.af9(h:Inv P n0 W0 V gs w t K Im ic (some p) st)(aH:p.recv=true){v n:Nat}{gi:SG}(aM:gs[ic]?=some gi)(hK:K ic=.lU v n)(jv:D4 P p.c p.Wg Im v (UT t ic) gi):gp P n0 W0 V gs w sl t K Im ic (some p) st ic:=by
 obtain⟨s,hs,fZ,iL,hm⟩:=h.mode aH;obtain⟨m1,m2,m3,m4,m5,m6,m7⟩:=hm.afa (v:=v) (by rw[hK];rfl);obtain⟨hd,bI,⟨g1,F9,n1,alc⟩,akq⟩:=jv;have rh:p.c≠p.Wg:=h.phase.2.2.1;have t_:∀k':GS,k'.cnt=0->k'.late=0->sumTo gs.size (λi=>(upd K ic k' i).cnt)=(sumTo gs.size λi=>(K i).cnt)/\sumTo gs.size (λi=>(upd K ic k' i).late)=(sumTo gs.size λi=>(K i).late):=λk' h1 h2=>
  ⟨kZ K k' GS.cnt (by rw[h1,hK];rfl),kZ K k' GS.late (by rw[h2,hK];rfl)⟩
 by_cases hv:(sumTo gs.size λi=>(K i).cnt)=v
 ·refine h.zf aH (k':=.said n1) (a:=dT p.Wg) hs aM (F9 w (by rw[<- hv];exact m5)) hd (.inr (.inr (.inl rfl))) (.inl rfl) (.inr ⟨_,rfl⟩) alc rfl (by rw[hK];rfl) rfl (by rw[hK];rfl) m1 ?_ (by rw[hK];exact .inl (by simp[GS.cZ];omega));unfold Mode;simp only[(t_ (.said n1) rfl rfl).1,(t_ (.said n1) rfl rfl).2,bw];refine .inr (.inl ⟨?_,m2,m3,by omega,m4,?_,.inl rfl⟩)
  ·obtain⟨n,hn⟩:=m1;exact⟨n,by rw[vV _ _ _ (Ne.symm rh)];exact hn⟩
  ·rw[hv];exact m5.Hr _
 ·obtain⟨g',lC,n',cG⟩:=akq (sumTo gs.size λi=>(K i).cnt) (by omega);refine h.zf aH (k':=.head v n') (a:=dT p.Wg) hs aM (lC w m5) hd (.inl rfl) (.inl rfl) (.inl rfl) cG rfl (by rw[hK];rfl) rfl (by rw[hK];rfl) m1 ?_ (by rw[hK];exact .inl (by simp[GS.cZ]));unfold Mode;simp only[(t_ (.head v n') rfl rfl).1,(t_ (.head v n') rfl rfl).2,bw];exact .inl ⟨m1,m2,m3,m4,m5,.inl ⟨v,rfl,by omega⟩⟩
theorem Inv.alY(h:Inv P n0 W0 V gs w t K Im ic (some p) st)(aH:p.recv=true){n:Nat}{gi:SG}(aM:gs[ic]?=some gi)(hK:K ic=.last n)(jv:H5 P Im p.c p.Wg (UT t ic) gi):gp P n0 W0 V gs w sl t K Im ic (some p) st ic:=by
 obtain⟨s,hs,fZ,iL,hm⟩:=h.mode aH;obtain⟨m1,m2,m3,m4,m5⟩:=hm.Ox (.inl (by rw[hK];rfl));obtain⟨hd,bI,g',aR,n',cG⟩:=jv;refine h.zf aH (k':=.acq n') (a:=dT p.Wg) hs aM (aR w m5) hd (.inl rfl) (.inl rfl) (.inl rfl) cG rfl (by rw[hK];rfl) rfl (by rw[hK];rfl) m1 ?_ (by rw[hK];exact .inl (by simp[GS.cZ]));unfold Mode;have e1:sumTo gs.size (λi=>(upd K ic (.acq n') i).cnt)=0:=by rw[kZ K (.acq n') GS.cnt (by rw[hK];rfl)];exact m4
 have e2:sumTo gs.size (λi=>(upd K ic (.acq n') i).late)=0:=by rw[kZ K (.acq n') GS.late (by rw[hK];rfl)];exact m3
 simp only[e1,e2,bw];exact .inr (.inr (.inr (.inr (.inl ⟨m1,m2,trivial,trivial,m5,.inr rfl⟩))))
theorem Inv.agm(h:Inv P n0 W0 V gs w t K Im ic (some p) st)(aH:p.recv=true){n:Nat}{gi:SG}(aM:gs[ic]?=some gi)(hK:K ic=.gZ n)(jv:D6 P Im p.c p.Wg (UT t ic) gi):gp P n0 W0 V gs w sl t K Im ic (some p) st ic:=by
 obtain⟨s,hs,fZ,iL,hm⟩:=h.mode aH;obtain⟨m1,m2,m3,mk⟩:=hm.Oz (.inr (by rw[hK];rfl));obtain⟨hd,bI,akB,vQ,g',Sy,n',cG⟩:=jv;have rh:p.c≠p.Wg:=h.phase.2.2.1;rcases m3 with⟨stv,hW⟩|⟨m4,m5,hW⟩
 ·
  have aR:=vQ w stv hW;have akv:¬WgAt P p.Wg w 0 1:=λx=>by have:=(hW.inj x).2;cases this
  refine h.tF aH (k':=.gZ 0) (s':=s) fZ aM aR (.inr ⟨rfl,gi,rfl,by rw[hd];exact⟨rfl,bI,akB,vQ,g',Sy,n',cG⟩⟩) (by rw[hK];exact GD Im) (λ_=>rfl) rfl (λj hj=>by rw[hK]at hj;cases hj) (.inl rfl) (by simp) (by simp) (by simp) rfl (λ_ _ _=>rfl) rfl rfl rfl
   (mk (.inr rfl) rfl rfl (λx=>absurd x akv) iL) (.inl m1) ?_ ?_
  ·have e0:t++Ta ic gi.frame.fn gi.frame.place #[]=t:=(by simp[Ta]);have hr:Rest p.Wg t K ic st:=h.out.2.2.1;rw[hs]at hr;refine hr.app (λidx a ha hx=> .inr (hx.app (by obtain⟨op,az,_⟩:=UU ha;exact TG az) λm _ _ hj=> .inl ?_)) (λidx a _ ⟨op,az,_⟩ _=>by simp[Ta]at az);by_cases cT:m=ic
   ·subst cT;rw[hK]at hj;cases hj
   ·rw[bc _ _ cT];exact hj
  ·by_cases hn:n=0
   ·refine .inr ⟨funext λj=> ?_,?_⟩
    ·by_cases hj:j=ic
     ·subst hj;simp only[bw,hK,hn]
     ·simp only[bc _ _ hj]
    ·simp only[flag];rw[S_ (by simpa using iL),aM];simp[bI]
   ·exact yk iL (by rw[hK];exact .inr ⟨rfl,.inr ⟨rfl,by simp only[GS.cZ];omega⟩⟩)
 ·refine h.zf aH (k':=.last n') (a:=oB p.Wg) hs aM (Sy w hW) hd (.inr (.inr (.inr rfl))) (.inr rfl) (.inr ⟨_,rfl⟩) cG rfl (by rw[hK];rfl) rfl (by rw[hK];rfl) m1 ?_ (by rw[hK];exact .inl (by simp[GS.cZ]));unfold Mode;have e1:sumTo gs.size (λi=>(upd K ic (.last n') i).cnt)=0:=by rw[kZ K (.last n') GS.cnt (by rw[hK];rfl)];exact m5
  have e2:sumTo gs.size (λi=>(upd K ic (.last n') i).late)=0:=by rw[kZ K (.last n') GS.late (by rw[hK];rfl)];exact m4
  simp only[e1,e2,bw];obtain⟨n,hn⟩:=m1;exact .inr (.inr (.inr (.inr (.inl ⟨⟨n,by rw[vV _ _ _ (Ne.symm rh)];exact hn⟩,m2,trivial,trivial,hW.acr 0,.inl rfl⟩))))
theorem Inv.apG(h:Inv P n0 W0 V gs w t K Im ic (some p) st)(aH:p.recv=true){n:Nat}{gi:SG}(aM:gs[ic]?=some gi)(hK:K ic=.said n)(jv:D5 P Im p.c p.Wg (UT t ic) gi):gp P n0 W0 V gs w sl t K Im ic (some p) st ic:=by
 obtain⟨s,hs,fZ,iL,hm⟩:=h.mode aH;obtain⟨m1,m2,m3,mk⟩:=hm.Oz (.inl (by rw[hK];rfl));obtain⟨hd,bI,g',aR,n',cG⟩:=jv;have nu:∀e∈#[jQ (.write (oB p.Wg))],e=jQ (.write (oB p.Wg)):=λe he=>by simpa using he
 have Sq:g'.status=.running:=cO.running (λd g x=>x.2.1) cG;refine h.tF aH (k':=.gZ n') (s':=s) fZ aM (aR w) (.inl (by rw[hd];exact cG)) (by rw[hK];exact GD Im) (λ_=>rfl) rfl (λj hj=>by rw[hK]at hj;cases hj) (.inl rfl) (λe he x hx=> .inr (.inl ?_)) (λe he=> ?_) (λe he a=> ?_) rfl (λ_ _ _=>rfl) rfl rfl rfl
  (mk (.inr rfl) rfl rfl (λ_ g hg=> ?_) iL) (.inl m1) ?_ (yk iL (by rw[hK];exact .inl (by simp[GS.cZ])))
 ·rw[nu e he]at hx;cases hx;exact⟨rfl,rfl,rfl⟩
 ·rw[nu e he];exact h.low.2
 ·rw[nu e he];simp[jQ,Tq]
 ·rcases getElem?_next iL hg with⟨_,rfl⟩|⟨aI,_⟩
  ·exact Sq
  ·exact absurd rfl aI
 ·have hr:Rest p.Wg t K ic st:=h.out.2.2.1;rw[hs,m2]at hr;rw[m2];refine hr.app (λidx a ha hx=> .inr (hx.app (by obtain⟨op,az,_⟩:=UU ha;exact TG az) λm _ _ hj=> .inl ?_)) (λidx a _ ⟨op,az,xK,_⟩ _=> .inr (.inr ⟨ic,?_,fZ,.inr (.inl rfl)⟩))
  ·by_cases cT:m=ic
   ·subst cT;rw[hK]at hj;cases hj
   ·rw[bc _ _ cT];exact hj
  ·obtain⟨e,_,rfl⟩:=TL az;simp[Wx,xK]
end
end Go.Gg
