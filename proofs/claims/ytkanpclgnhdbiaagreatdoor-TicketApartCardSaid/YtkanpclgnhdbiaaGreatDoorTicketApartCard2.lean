/- A part of the proof. -/
import Derived.Test.YtkanpclgnhdbiaaGreatDoorTicketApartCard1
import Derived.Conc.Beside
import Derived.Conc.CrowdTrace
import Derived.Conc.CrowdComm
set_option linter.all false
set_option maxRecDepth 4000
set_option maxHeartbeats 4000000
open Array renaming getElem?_append_right->Yh,getElem?_eq_getElem->SJ,getElem?_eq_some_iff->SS,getElem?_map->WI,getElem?_modify->Wn,getElem?_setIfInBounds_ne->SX,getElem?_setIfInBounds_self_of_lt->Tb,getElem_mem->X8,mem_append->Uw,size_append->XL
open Bool renaming false_eq_true->TV
open Classical renaming byContradiction->Tv
open Go renaming Addr->Vf,Code->Uc,Deferred->U8,Event->Uu,FuncId->TY,Goroutine->SG,IntKind->T8,LoopState->af',MemOp->Wi,Operand->Tl,Program->SI,ResultVar->UU,Touch->YR,Trace->Uq,Value->SP,World->Tq
open Go.BinOp renaming neq->Wz
open Go.Conc renaming Deaf->U4,Deaf_other->av7,Knows->Wq,QuitsD->Zf,act?_of->am_,act?_old->Yg,deaf_succ->ah_,getElem?_append_cases->Xs,getElem?_stand->Yj,heard_old->Wu,knows_own->Zp,lt_of_act?->Wh,lt_size_of_getElem?->TP,mem_ofEvents->TU,mem_of_getElem?->X7,ofEvent_cell0->ats,offersAt_of_not_blocked->U7,offersAt_ph->Zy,served->Ua,touch_mute->Z8,touch_of->U6,woken_run->Yt
open Go.Conc.QuitsD renaming status->ZS
open Go.ConcN renaming le_sumTo->WG,sumTo_congr->Vv
open Go.Event renaming mute->WK
open Go.GoStatus renaming blocked->av5
open Go.Goroutine renaming again->Y4
open Go.IntKind renaming i64->SD
open Go.MemAct renaming low_mono->Zv,ofEvent->Tt,touch?->Wj
open Go.MemAct.mark renaming injEq->apH
open Go.MemOp renaming ofEvents->Tc
open Go.Obj renaming deferred->awd
open Go.Op renaming equal->Xx
open Go.Proofs.Tryz renaming f107->ao_,f109->an',f89->ar',f97->avY,prog->SA
open Go.Trace renaming g?->WE
open Go.Value renaming int->SF
open Go.World renaming cell?->UC,setCell->Xr
open Int renaming toNat->Yi
open List renaming append_assoc->SC,append_nil->SN,cons_append->Vs,drop->TR,drop_append->VD,drop_append_of_le_length->Wt,drop_drop->ar_,drop_eq_getElem_cons->T4,drop_eq_nil_of_le->T7,drop_zero->XJ,ext_getElem?->Yw,flatMap_append->Uk,flatMap_cons->TW,foldl->ai',foldl_append->WZ,foldl_cons->UV,getD_eq_getElem?_getD->SE,getElem?_append_left->S0,getElem?_append_right->S_,getElem?_drop->Us,getElem?_eq_getElem->SY,getElem?_eq_some_iff->SL,getElem?_map->Tp,getElem?_set->UX,getElem?_set_ne->Ud,getElem?_set_self->Xg,getElem?_take->Ui,getElem_mem->Ww,getLastD_eq_getLast?->U_,length_append->SQ,length_drop->Ur,length_map->Ta,length_set->TK,map->Vj,mapM_cons->Uf,mapM_nil->UH,map_append->To,map_congr_left->VH,map_cons->U0,map_drop->an_,map_flatMap->Vl,map_map->WS,map_nil->ZU,map_singleton->Zk,map_take->Wa,mem_append->SV,mem_append_left->Ti,mem_append_right->S5,mem_cons->SK,mem_flatMap->S4,mem_flatten->XU,mem_iff_getElem?->UY,mem_map->Tf,mem_of_getElem?->S6,mem_of_mem_take->VS,mem_or_eq_of_mem_set->UF,mem_replicate->XG,mem_singleton->S9,mem_toArray->TQ,nil_append->UN,nodup_append->Vh,not_mem_nil->SZ,range->SR,range'->Ub,range'_append_1->Zi,range'_succ->VW,range_eq_range'->Vx,range_succ->UZ,replicate->TO,replicate_succ->Wy,set_append_left->U1,set_append_right->Ue,set_cons_succ->UK,set_cons_zero->T9,set_eq_take_append_cons_drop->XY,set_set->Xf,take->Uh,take_add_one->Uo,take_append_drop->Vu,take_append_of_le_length->TB,take_length->Tn,take_of_length_le->SW,take_set->ad',take_succ->WC,take_succ_cons->VZ,take_take->Vd,take_zero->Zh
open List.Perm renaming refl->aj_
open Nat renaming add_sub_cancel->VM,add_sub_cancel_left->T5,add_zero->UJ,eq_zero_or_pos->UL,le_of_eq->WL,le_refl->SO,le_trans->TL,lt_of_lt_of_le->Tg,lt_trans->Wr,reduceAdd->SU,strongRecOn->Yv,sub_self->Vp,sub_zero->Z',zero_add->Wv
open Option renaming bind_eq_bind->T1,getD_some->S8,map_eq_some_iff->Ts,pure_def->Um,toList_some->YV
open Option.some renaming inj->Wb,injEq->Tm
open Prod.mk renaming injEq->Vb
namespace Go.Gg
open Go.Conc Go.Proofs Go.Gg.Tk
theorem Lf{α:Type}(g:Nat->List α)(i:Nat):(SR (i+1)).flatMap g=(SR i).flatMap g++g i:=by
 rw[UZ,Uk];simp
theorem Ld{α:Type}(g:Nat->List α){i n:Nat}(h:i<n):(SR n).flatMap g=(SR i).flatMap g++(g i++(Ub (i+1) (n-(i+1))).flatMap g):=by
 have:SR n=SR i++(i::Ub (i+1) (n-(i+1))):=by
  rw[Vx,Vx,<- VW];have:=Zi (s:=0) (m:=i) (n:=n-(i+1)+1);rw[Wv]at this;rw[this];congr 1;omega
 rw[this,Uk,TW]
theorem Px{α:Type}{l:List α}{i:Nat}{v:α}(h:i<l.length):(l.set i v).take (i+1)=l.take i++[v]:=by
 rw[WC,ad',UX,if_pos rfl,if_pos h,List.set_eq_of_length_le (by simp;omega)];rfl
namespace Tk
def jj (h:List Int)(hour j:Nat)(n:Int):List Int:=h.take hour++TO j n++h.drop (hour+j)
theorem Gv{h:List Int}{hour j:Nat}{n:Int}(hj:hour+j<=h.length):(jj h hour j n).length=h.length:=by simp[jj];omega
theorem akj(h:List Int)(hour:Nat)(n:Int):jj h hour 0 n=h:=by simp[jj]
theorem K3{h:List Int}{hour j:Nat}{n:Int}(hj:hour+j<h.length):(jj h hour j n).set (hour+j) n=jj h hour (j+1) n:=by
 unfold jj;have hl:(h.take hour++TO j n).length=hour+j:=by simp;omega
 rw[Ue _ _ (by omega),hl,Vp,List.replicate_succ'];rw[T4 hj,T9,SC,SC,SC];rfl
theorem aki{h:List Int}{hour j:Nat}{n:Int}(hn:h[hour]?=some n)(hj:hour+j<=h.length):(jj h hour j n)[hour]?=some n:=by
 have hl:=eW hn;unfold jj;rw[SC,S_ (by simp;omega)];have:hour-(h.take hour).length=0:=by simp;omega
 rw[this];cases j with
 |zero=>simpa using hn
 |succ j=>simp[Wy]
theorem akh{h pre:List Int}{hour:Nat}{n:Int}(h4:h.length=4)(hn:h[hour]?=some n)(hp:pre=h.take (hour+1)):jj h hour (4-hour) n=cz pre:=by
 have hl:=eW hn;have e:pre=h.take hour++[n]:=by rw[hp,WC,hn];rfl
 unfold jj cz;rw[T7 (by omega),SN,e];have h1:(h.take hour++[n]).length=hour+1:=by simp;omega
 rw[h1,show (h.take hour++[n]).getLastD 0=n by simp[U_],SC];congr 1;rw[show 4-hour=(4-(hour+1))+1 by omega,Wy];rfl
theorem ac9{h pre:List Int}{hour:Nat}{n:Int}(hn:h[hour]?=some n)(hp:pre=h.take (hour+1)):pre.length=hour+1/\pre.getLastD 0=n:=by
 have hl:=eW hn;have e:pre=h.take hour++[n]:=by rw[hp,WC,hn];rfl
 subst e;exact⟨by simp;omega,by simp[U_]⟩
end Tk
open Go.Conc Go.Proofs Go.Gg.Tk
section
variable {lv:Bool}
def qJ (yv:AV)(N ir it:Nat)(h:List Int):List aa:=[.cells [yv] 130,.cells (h.map iv) 83,.cells [.fn (.func 87) [] [.op ir 0,.op (N+1) 0]] 68,.cells [.fn (.func 89) [] [.op (N+2) 0,.op ir 0,.op (N+1) 0,.op N 0,.op it 0,.op (N+3) 0]] 68]
theorem aj4{x:ak}{bt N ir it:Nat}{yv pv:AV}{S:Type}{f:S->List Int->dE S}{Gf:S->List aa}{I:S->Prop}{A:List Int->Prop}(hx:x.Ok)(hY:jQ lv SA yv f Gf N I A pv)(hr:∀σ L,(Gf σ++L)[ir]?=some (.cells x.l 76))(ht:∀σ L,(Gf σ++L)[it]?=some (.cells [iv bt] 3))(lZ:bt<=3):
  ∀(d hour:Nat)(h pre:List Int)(n0:Int)(σ:S)(M:List aa)(k kp:AV->List aa->Prop),d+hour=x.hours.toNat->h.length=4->h[hour]?=some n0->(0<=n0/\n0<=90+3* hour)->pre=h.take (hour+1)->I σ->(∀a∈mY x bt d pre,A a)->
   (∀h',h'.length=4->h'.take (hour+1)=pre->cW Gf pv k kp (qJ yv N ir it h'++M) (bK f (mY x bt d pre) σ))->
   ba lv SA 89 (Gf σ++(qJ yv N ir it h++M)) [iv hour,.op (N+2) 0,.op ir 0,.op (N+1) 0,.op N 0,.op it 0,.op (N+3) 0] k kp:=by
 intro d;induction d with
 |zero=>
  intro hour h pre n0 σ M k kp pH h4 oW hb hp hI hA hk;refine bD (rs:=[.tmp 8]) (nt:=61) ar' λhH uY=> ?_;simp only[bp,SU];obtain⟨cL,vr⟩:=ac9 oW hp;have pK:hour<4:=by have:=eW oW;omega
  have yS:=hx.hours;have bU:x.l=[iv x.first,iv x.hours,iv x.am,c_ x.seen,aN x.pieces,aN x.aC]:=rfl;have g0:∀(σ:S)(L:List aa),(Gf σ++L)[N]?=L[0]?:=λσ L=>hY.get σ L 0;have g1:∀(σ:S)(L:List aa),(Gf σ++L)[N+1]?=L[1]?:=λσ L=>hY.get σ L 1;have g2:∀(σ:S)(L:List aa),(Gf σ++L)[N+2]?=L[2]?:=λσ L=>hY.get σ L 2;have s1:∀(σ:S)(L:List aa) x,(Gf σ++L).set (N+1) x=Gf σ++L.set 1 x:=λσ L x=>hY.set σ L 1 x;rw[mY,cL,vr,VM]at hA hk;refine aj ?_;refine ab ?_;simp only[seval,g2,qJ];refine aK ((Sj (x:=x) (h:=h) (n:=n0) hx h4 oW (hr _ _) (by rw[g1];rfl) ?_));(try simp only[seval]);refine aD ?_;refine⟨λhs=> ?_,λhs=> ?_⟩
  ·refine aj ?_;refine aX ?_;have:=hk h h4 hp.symm;rw[hs]at this;simp only[TV,if_false,bK,cW]at this;exact ce this
  ·rw[if_pos hs]at hA hk;rw[O_]at hk;have hhe:(hour:Int)=x.hours:=(by omega);refine aF ?_;refine ab ?_;simp only[seval,hr,bU];refine aD ?_;refine⟨λhc=> ?_,λhc=>by exfalso;simp at hc;omega⟩;refine aj ?_;refine bP ?_;refine ek (4-hour) (λj:Nat=>[(9,iv ((hour+j:Nat):Int))]) (λj=>Gf σ++(qJ yv N ir it (jj h hour j n0)++M)) (λj=>True) (λ_ _=>rfl) (by simp only[seval];simp[bk,Wk.refl]) (by rw[akj];rfl) (λm _ _=>by simp[qJ]) trivial (λbw bG j lS hj R hR=> ?_);refine aj ?_;refine aD ?_;refine⟨λhc=> ?_,λhc=> ?_⟩
   ·have dn:j<4-hour:=(by omega);have bb:(0<=(hour:Int)/\(hour:Int)<4)=True:=(by simp;omega);have bj:(0<=(hour:Int)+(j:Int)/\(hour:Int)+(j:Int)<4)=True:=(by simp;omega);have y8:((hour:Int)+(j:Int)).toNat=hour+j:=(by omega);have lq:(jj h hour j n0).length=4:=(by rw[Gv (by omega),h4]);have mo:(Vj iv (jj h hour j n0)).length=4:=(by rw[Ta,lq]);have hw:SD.wrap ((hour:Int)+(j:Int)+1)=(hour:Int)+((j+1:Nat):Int):=(by rw[bc _ (by omega)];push_cast;omega);refine aF ?_;refine ab ?_;simp only[seval,g1,s1,qJ,bb,bj,y8,mo,lc (aki oW (show hour+j<=h.length by omega))];refine⟨by omega,?_⟩;rw[xF (by omega),K3 (by omega)];refine ab ?_;simp only[seval,hw];exact hR _ ⟨dn,trivial,bX⟩
   ·have:j=4-hour:=(by omega);subst this;have Hw:=akh h4 oW hp;rw[Hw];have Hv:(cz pre).length=4:=(by rw[<- Hw,Gv (by omega),h4]);have tY:((cz pre).map iv).length=4:=(by rw[Ta,Hv]);have mv:(cz pre).take (hour+1)=pre:=(by unfold cz;rw[TB (by omega),SW (by omega)]);refine bO ?_;refine ab ?_;simp only[seval,g0,g1,qJ,tY];rw[SW (i:=4) (l:=(cz pre).map iv) (by rw[tY];exact SO _)];refine ye (hY.call σ (cz pre) (qJ yv N ir it (cz pre)++M) _ _ hI (hA _ (by simp)) ?_);have aJ:=hk (cz pre) Hv mv;cases hf:f σ (cz pre)with
    |go σ'=>
     rw[hf]at aJ;simp only[cW]at aJ⊢;(try simp only[seval]);refine aX ?_;exact ce aJ
    |stop σ'=>
     rw[hf]at aJ;simp only[cW]at aJ⊢;(try simp only[seval]);refine aX ?_;exact ce aJ
    |bad σ'=>
     rw[hf]at aJ;simp only[cW]at aJ⊢;exact ce aJ
 |succ d ih=>
  intro hour h pre n0 σ M k kp pH h4 oW hb hp hI hA hk;refine bD (rs:=[.tmp 8]) (nt:=61) ar' λhH uY=> ?_;simp only[bp,SU];obtain⟨cL,vr⟩:=ac9 oW hp;have yS:=hx.hours;have Hy:=hx.am;have hh3:hour<3:=by omega
  have bU:x.l=[iv x.first,iv x.hours,iv x.am,c_ x.seen,aN x.pieces,aN x.aC]:=rfl;have g1:∀(σ:S)(L:List aa),(Gf σ++L)[N+1]?=L[1]?:=λσ L=>hY.get σ L 1;have g2:∀(σ:S)(L:List aa),(Gf σ++L)[N+2]?=L[2]?:=λσ L=>hY.get σ L 2;have g3:∀(σ:S)(L:List aa),(Gf σ++L)[N+3]?=L[3]?:=λσ L=>hY.get σ L 3;have s1:∀(σ:S)(L:List aa) x,(Gf σ++L).set (N+1) x=Gf σ++L.set 1 x:=λσ L x=>hY.set σ L 1 x;rw[mY,cL,vr,VM]at hA hk;refine aj ?_;refine ab ?_;simp only[seval,g2,qJ];refine aK ((Sj (x:=x) (h:=h) (n:=n0) hx h4 oW (hr _ _) (by rw[g1];rfl) ?_));(try simp only[seval]);refine aD ?_;refine⟨λhs=> ?_,λhs=> ?_⟩
  ·refine aj ?_;refine aX ?_;have:=hk h h4 hp.symm;rw[hs]at this;simp only[TV,if_false,bK,cW]at this;exact ce this
  ·rw[if_pos hs]at hA hk;have hhe:¬(hour:Int)=x.hours:=(by omega);refine aF ?_;refine ab ?_;simp only[seval,hr,bU];refine aD ?_;refine⟨λhc=>by exfalso;exact hhe hc,λhc=> ?_⟩;refine aF ?_;refine ab ?_;simp only[seval,hr,bU,bc (x.am+1) (by omega)];generalize hg:(λn:Nat=>if hour+1=1/\n≠bt then[]else mY x bt d (pre++[n0+(n:Int)]))=g at hA hk;refine bP ?_;refine An (measure λm:Nat×S×List Int=>(x.am.toNat+1)-m.1).wf (λm=>[(37,iv (m.1:Nat))]) (λm=>Gf m.2.1++(qJ yv N ir it m.2.2++M)) (λm=>m.1<=x.am.toNat+1/\bK f ((SR m.1).flatMap g) σ=.go m.2.1/\m.2.2.length=4/\m.2.2.take (hour+1)=pre) (0,σ,h) (λ_ _=>rfl) (by intro p hp;simp at hp;subst hp;exact⟨_,rfl,Wk.refl _⟩) rfl (λ_ _=>by simp[qJ,hY.len]) ⟨by omega,rfl,h4,hp.symm⟩ (λbw bG m aq R hR=> ?_);obtain⟨i,τ,hq⟩:=m;obtain⟨hi,bQ,Bm,Bn⟩:=aq;replace hi:i<=x.am.toNat+1:=hi;replace bQ:bK f ((SR i).flatMap g) σ=.go τ:=bQ;replace Bm:hq.length=4:=Bm;replace Bn:hq.take (hour+1)=pre:=Bn;have vw:hq[hour]?=some n0:=by
    have h1:(hq.take (hour+1))[hour]?=some n0:=(by rw[Bn,hp,Ui,if_pos (by omega)];exact oW);rwa [Ui,if_pos (by omega)]at h1
   refine aj ?_;refine aD ?_;refine⟨λhc=> ?_,λhc=> ?_⟩
   ·have br:i<x.am.toNat+1:=(by omega);have bH:SD.wrap ((i:Int)+1)=((i+1:Nat):Int):=(by rw[bc _ (by omega)];rfl);have sg:=Ld g br;have pU:=Lf g i;have Dn:I τ:=BV (A:=A) hY.inv _ σ τ (λa ha=>hA a (by rw[sg];exact Ti _ ha)) hI bQ;refine aF ?_;refine aj ?_;have hqm:(Vj iv hq).length=4:=(by rw[Ta,Bm]);have bb:(0<=(hour:Int)/\(hour:Int)<4)=True:=(by simp;omega);have bb1:(0<=(hour:Int)+1/\(hour:Int)+1<4)=True:=(by simp;omega);have nW:((hour:Int)+1).toNat=hour+1:=(by omega);have hwh:SD.wrap ((hour:Int)+1)=(hour:Int)+1:=bc _ (by omega);have Nt:SD.wrap (n0+(i:Int))=n0+(i:Int):=bc _ (by omega);refine ab ?_;simp only[seval,ht];refine yy (λh2=> ?ga) (λh2=> ?gb)
    case' ga=>
     (try simp only[seval,ht]);refine aD ?_;refine⟨λh3=> ?gc,λh3=> ?gd⟩
     case gc=>
      have aO:g i=[]:=(by rw[<- hg];exact if_pos ⟨by simp at h2;omega,by omega⟩);refine bO ?_;refine ab ?_;simp only[seval,bH];exact hR _ ⟨(i+1,τ,hq),(by show x.am.toNat+1-(i+1)<x.am.toNat+1-i;omega),⟨by omega,by rw[pU,aO,SN];exact bQ,Bm,Bn⟩,bX⟩
    case' gb=>
     (try simp only[seval]);refine aD ?_
    all_goals
     have aO:g i=mY x bt d (pre++[n0+(i:Int)]):=by
      rw[<- hg];refine if_neg ?_
      rintro⟨q1,q2⟩
      first|(simp at h3;omega)|(simp at h2;omega)
     refine aF ?_;refine ab ?_;simp only[seval,g1,s1,qJ,bb,bb1,nW,hwh,Nt,hqm,lc vw];refine⟨by omega,?_⟩;rw[xF (show hour+1<hq.length by omega)];refine ab ?_;simp only[seval,g3,hwh];have amE:(hq.set (hour+1) (n0+(i:Int))).length=4:=(by rw[TK,Bm]);have hqt:pre++[n0+(i:Int)]=(hq.set (hour+1) (n0+(i:Int))).take (hour+1+1):=(by rw[Px (by omega),Bn]);refine aK ((ih (hour+1) (hq.set (hour+1) (n0+(i:Int))) (pre++[n0+(i:Int)]) (n0+(i:Int)) τ M _ _ (by omega) amE (by rw[UX,if_pos rfl,if_pos (by omega)]) (by omega) hqt Dn (λa ha=>hA a (by rw[sg,aO];exact S5 _ (Ti _ ha))) (λh' rP amD=> ?_)));have M0:h'.take (hour+1)=pre:=by
      have e:h'.take (hour+1)=(h'.take (hour+1+1)).take (hour+1):=(by rw[Vd];congr 1;omega);rw[e,amD,TB (WL cL.symm),SW (WL cL)]
     have Bw:bK f ((SR (x.am.toNat+1)).flatMap g) σ=match bK f (g i) τ with
       |.go s'=>bK f ((Ub (i+1) (x.am.toNat+1-(i+1))).flatMap g) s'
       |r=>r:=by
      rw[sg,re,bQ];exact re f (g i) _ τ
     rw[<- aO];cases hf:bK f (g i) τ with
     |go τ'=>
      simp only[cW];(try simp only[seval]);refine aD ?_;refine aF ?_;refine ab ?_;simp only[seval,bH];exact hR _ ⟨(i+1,τ',h'),(by show x.am.toNat+1-(i+1)<x.am.toNat+1-i;omega),⟨by omega,by rw[pU,re,bQ];exact hf,rP,M0⟩,bX⟩
     |stop τ'=>
      simp only[cW];(try simp only[seval]);refine aD ?_;refine aj ?_;refine aX ?_;have aJ:=hk h' rP M0;rw[Bw,hf]at aJ;exact ce aJ
     |bad τ'=>
      simp only[cW];have aJ:=hk h' rP M0;rw[Bw,hf]at aJ;exact ce aJ
   ·have dB:i=x.am.toNat+1:=(by omega);subst dB;have aJ:=hk hq Bm Bn;rw[bQ]at aJ;refine bO ?_;refine aj ?_;refine aX ?_;exact ce aJ
theorem vY{P:SI}{yv pv:AV}{S:Type}{f:S->List Int->dE S}{Gf:S->List aa}{N:Nat}{I:S->Prop}{A:List Int->Prop}{k:AV->List aa->Prop}(hY:jQ lv P yv f Gf N I A pv){σ σ':S}{L:List aa}{a:AV}(hH:bJ (Gf σ))(ha:∀n,Lt n a)(hk:k a (Gf σ')):cH (Gf σ).length (Gf σ'++L) a k:=by
 refine jE (H':=Gf σ') (Wk.refl _) rfl (by rw[hY.len,hY.len];exact SO _) ?_ (ha _) hk;have:=hY.aq (σ:=σ) (M:=[]) (by simpa using hH) σ';simpa using this
theorem KW{H:List aa}{k kp:AV->List aa->Prop}{x:ak}{n:Int}(hk:k (.fn (.func 86) [] [.op H.length 0,.op (H.length+1) 0]) (H++[.cells x.l 76,.cells [iv n] 3])):ba lv SA 64 H [x.av,iv n] k kp:=by
 refine bD (rs:=[.tmp 4]) (nt:=6) Tryz.f64 λhH hA=> ?_;simp only[bp,SU,ak.av];refine aj ?_;refine ab ?_;simp only[seval,Uf,UH,Um,T1];refine aX ?_;exact ce hk
theorem KZ{x:ak}{bt N ir it:Nat}{yv pv:AV}{S:Type}{f:S->List Int->dE S}{Gf:S->List aa}{I:S->Prop}{A:List Int->Prop}{σ:S}{k kp:AV->List aa->Prop}(hx:x.Ok)(hY:jQ lv SA yv f Gf N I A pv)(hr:∀σ L,(Gf σ++L)[ir]?=some (.cells x.l 76))(ht:∀σ L,(Gf σ++L)[it]?=some (.cells [iv bt] 3))(lZ:bt<=3)
  (mw:∀n,Lt n pv) (hI:I σ) (hA:∀a∈jW x bt,A a) (hk:gg Gf pv k kp [] (bK f (jW x bt) σ)):ba lv SA 86 (Gf σ) [yv,.op ir 0,.op it 0] k kp:=by
 refine bD (rs:=[]) (nt:=15) Tryz.f86 λhH uY=> ?_;simp only[bp,SU];have hN:=hY.len σ;have bU:x.l=[iv x.first,iv x.hours,iv x.am,c_ x.seen,aN x.pieces,aN x.aC]:=rfl;refine ab ?_;simp only[seval,hY.parts];refine aj ?_;refine ab ?_;simp only[seval,Uf,UH,Um,T1];refine aj ?_;refine ab ?_;simp only[seval,Uf,UH,Um,T1];refine ab ?_;simp only[seval,hr,bU];refine aj ?_;have h0:=hx.first;have hh:=hx.hours;have MZ:[x.first]=Uh (0+1) [x.first,0,0,0]:=rfl;refine aK (?_);rw[hN];refine aj4 (x:=x) (bt:=bt) hx hY hr ht lZ x.hours.toNat 0 [x.first,0,0,0] [x.first] x.first σ [] _ _ rfl rfl rfl (by omega) MZ hI hA (λh' rP Bi=> ?_);change cW Gf pv _ _ _ (bK f (jW x bt) σ);have sw:∀n,Lt n (.aQ []):=λn=>by simp[jM]
 cases hf:bK f (jW x bt) σ with
 |go s=>
  rw[hf]at hk;simp only[cW,gg]at hk⊢;rw[SN]at hk;(try simp only[seval]);rw[<- hN];exact vY hY hH sw hk
 |stop s=>
  rw[hf]at hk;simp only[cW,gg]at hk⊢;rw[SN]at hk;(try simp only[seval]);rw[<- hN];exact vY hY hH sw hk
 |bad s=>
  rw[hf]at hk;simp only[cW,gg]at hk⊢;rw[SN]at hk;rw[<- hN];exact vY hY hH mw hk
end
theorem Rz{α:Type}{l:List α}{i j:Nat}{v:α}(h:i<j):(l.set i v).drop j=l.drop j:=by
 apply Yw;intro k;rw[Us,Us,Ud (by omega)]
theorem AB{α:Type}{g:α->AV}{xs:List α}{i:Nat}{x:α}(h:xs[i]?=some x):(xs.map g).drop i=g x::(xs.drop (i+1)).map g:=by
 rw[<- an_,wG h,U0]
namespace Tk
def aet (k:Nat):List Int:=TO (4-k) (-1)++[-1, -1, -1]
structure pt (h:List Int)(k p:Nat)(t:List Nat)(tc:List Int):Prop where
 len:tc.length=11
 pre:tc.take (4+p)=h++t.map λn:Nat=>(n:Int)
 tl:tc.drop (4+k)=aet k
theorem pt.all{h:List Int}{k:Nat}{t:List Nat}{tc:List Int}(ht:t.length=k)(n:pt h k k t tc):tc=dX h t:=by
 have:=Vu (4+k) tc;rw[n.pre,n.tl]at this;rw[<- this];unfold dX lG aet;rw[ht];simp[SC]
theorem pt.back{h:List Int}{k p:Nat}{t:List Nat}{n:Nat}{tc:List Int}(h4:h.length=4)(ht:t.length=p)(q:pt h k (p+1) (t++[n]) tc):pt h k p t tc:=by
 refine⟨q.len,?_,q.tl⟩;have e:tc.take (4+p)=(tc.take (4+(p+1))).take (4+p):=by rw[Vd];congr 1;omega
 rw[e,q.pre,To,<- SC,TB (by simp[h4,ht]),SW (by simp[h4,ht])]
theorem pt.next{h:List Int}{k p:Nat}{t:List Nat}{n:Nat}{tc:List Int}(hp:p<k)(hk:k<=4)(q:pt h k p t tc):pt h k (p+1) (t++[n]) (tc.set (4+p) (n:Int)):=by
 refine⟨by rw[TK];exact q.len,?_,?_⟩
 ·rw[show 4+(p+1)=(4+p)+1 by omega,Px (by rw[q.len];omega),q.pre];simp
 ·rw[Rz (by omega)];exact q.tl
theorem aph{h:List Int}{q:Nat}{qs:List Nat}{u:Nat}{t:List Nat}:(kR (q::qs) u t).map (dX h)=(SR 9).flatMap λn=>if u.testBit n|| !q.testBit n then[]else(kR qs (u|||2^n) (t++[n])).map (dX h):=by
 rw[kR,Vl];congr 1;funext n;split<;>rfl
end Tk
section
variable {lv:Bool}
def um (yv:AV)(N ir:Nat)(ps:List Nat)(tc:List Int):List aa:=[.cells [yv] 132,.cells (tc.map iv) 86,.cells (ps.map λn=>wv n) 80,.cells [.fn (.func 107) [] [.op ir 0,.op N 0,.op (N+1) 0,.op (N+2) 0,.op (N+3) 0]] 157]
theorem ajb{x:ak}{h ps N ir:_}{yv pv:AV}{S:Type}{f:S->List Int->dE S}{Gf:S->List aa}{I:S->Prop}{A:List Int->Prop}(hx:x.Ok)(h4:h.length=4)(hY:jQ lv SA yv f Gf N I A pv)(hr:∀σ L,(Gf σ++L)[ir]?=some (.cells x.l 76))(oY:ps=x.pieces.map (bZ h)++TO (4-x.pieces.length) 0):
  ∀(d p u:Nat)(t:List Nat)(tc:List Int)(σ:S)(M:List aa)(k kp:AV->List aa->Prop),d+p=x.pieces.length->u<65536->t.length=p->pt h x.pieces.length p t tc->I σ->(∀a∈(kR ((x.pieces.map (bZ h)).drop p) u t).map (dX h),A a)->
   (∀ez,pt h x.pieces.length p t ez->cW Gf pv k kp (um yv N ir ps ez++M) (bK f ((kR ((x.pieces.map (bZ h)).drop p) u t).map (dX h)) σ))->
   ba lv SA 107 (Gf σ++(um yv N ir ps tc++M)) [iv p,wv u,.op ir 0,.op N 0,.op (N+1) 0,.op (N+2) 0,.op (N+3) 0] k kp:=by
 intro d;induction d with
 |zero=>
  intro p u t tc σ M k kp L7 hu ht hT hI hA hk;refine bD (rs:=[.tmp 9]) (nt:=47) ao_ λhH uY=> ?_;simp only[bp,SU];have bU:x.l=[iv x.first,iv x.hours,iv x.am,c_ x.seen,aN x.pieces,aN x.aC]:=rfl;have g0:∀(σ:S)(L:List aa),(Gf σ++L)[N]?=L[0]?:=λσ L=>hY.get σ L 0;have g1:∀(σ:S)(L:List aa),(Gf σ++L)[N+1]?=L[1]?:=λσ L=>hY.get σ L 1;have cL:p=x.pieces.length:=by omega
  have wW:(x.pieces.map (bZ h)).drop p=[]:=T7 (by simp;omega);rw[wW,kR]at hA hk;rw[Zk]at hA hk;rw[O_]at hk;have zf:tc=dX h t:=by subst cL;exact hT.all ht
  have ki:(tc.map iv).length=11:=by rw[Ta,hT.len]
  refine aj ?_;(repeat apply eT);refine QE ?_;refine ab ?_;simp only[seval,hr,bU,aN];refine aD ?_;refine⟨λhc=> ?_,λhc=>by exfalso;simp at hc;omega⟩;refine ab ?_;simp only[seval,g0,g1,um,ki];rw[SW (i:=11) (l:=tc.map iv) (by rw[ki];exact SO _)];rw[<- zf]at hA hk;have aJ:=hk tc hT;refine ye (hY.call σ tc (um yv N ir ps tc++M) _ _ hI (hA _ (by simp)) ?_);cases hf:f σ tc with
  |go σ'=>
   rw[hf]at aJ;simp only[cW]at aJ⊢;(try simp only[seval]);refine aX ?_;exact ce aJ
  |stop σ'=>
   rw[hf]at aJ;simp only[cW]at aJ⊢;(try simp only[seval]);refine aX ?_;exact ce aJ
  |bad σ'=>
   rw[hf]at aJ;simp only[cW]at aJ⊢;exact ce aJ
 |succ d ih=>
  intro p u t tc σ M k kp L7 hu ht hT hI hA hk;refine bD (rs:=[.tmp 9]) (nt:=47) ao_ λhH uY=> ?_;simp only[bp,SU];have bU:x.l=[iv x.first,iv x.hours,iv x.am,c_ x.seen,aN x.pieces,aN x.aC]:=rfl;have g1:∀(σ:S)(L:List aa),(Gf σ++L)[N+1]?=L[1]?:=λσ L=>hY.get σ L 1;have g2:∀(σ:S)(L:List aa),(Gf σ++L)[N+2]?=L[2]?:=λσ L=>hY.get σ L 2;have g3:∀(σ:S)(L:List aa),(Gf σ++L)[N+3]?=L[3]?:=λσ L=>hY.get σ L 3;have s1:∀(σ:S)(L:List aa) x,(Gf σ++L).set (N+1) x=Gf σ++L.set 1 x:=λσ L x=>hY.set σ L 1 x;have nY:=hx.ee;have Hv:p<4:=by omega
  obtain⟨y,hy⟩:=bE (xs:=x.pieces) (i:=p) (by omega);have vG:(x.pieces.map (bZ h))[p]?=some (bZ h y):=by rw[Tp,hy];rfl
  have nZ:ps[p]?=some (bZ h y):=by rw[oY,S0 (by simp;omega)];exact vG
  have hO:bZ h y<65536:=Wr (Sq h y) (by decide);have aH:¬(p:Int)=(x.pieces.length:Int):=by omega
  rw[wG vG,aph]at hA hk;generalize hg:(λn=>if u.testBit n|| !(bZ h y).testBit n then[]else(kR ((x.pieces.map (bZ h)).drop (p+1)) (u|||2^n) (t++[n])).map (dX h))=g at hA hk;refine aj ?_;(repeat apply eT);refine QE ?_;refine ab ?_;simp only[seval,hr,bU,aN];refine aD ?_;refine⟨λhc=>by exfalso;exact aH (by simpa using hc),λhc=> ?_⟩;refine aF ?_;(repeat apply eT);refine Qz ?_;simp only[seval];refine aj ?_;refine bP ?_;refine An (measure λm:Nat×S×List Int=>9-m.1).wf (λm=>[(20,iv (m.1:Nat))]) (λm=>Gf m.2.1++(um yv N ir ps m.2.2++M)) (λm=>m.1<=9/\bK f ((SR m.1).flatMap g) σ=.go m.2.1/\pt h x.pieces.length p t m.2.2) (0,σ,tc) (λ_ _=>rfl) (by intro p hp;simp at hp;subst hp;exact⟨_,rfl,Wk.refl _⟩) rfl (λ_ _=>by simp[um,hY.len]) ⟨by omega,rfl,hT⟩ (λbw bG m aq R hR=> ?_);obtain⟨i,τ,tq⟩:=m;obtain⟨hi,bQ,lO⟩:=aq;replace hi:i<=9:=hi;replace bQ:bK f ((SR i).flatMap g) σ=.go τ:=bQ;replace lO:pt h x.pieces.length p t tq:=lO;refine aj ?_;refine aD ?_;refine⟨λhc=> ?_,λhc=> ?_⟩
  ·have br:i<9:=(by omega);have bH:SD.wrap ((i:Int)+1)=((i+1:Nat):Int):=(by rw[bc _ (by omega)];rfl);have sg:=Ld g br;have pU:=Lf g i;have Dn:I τ:=BV (A:=A) hY.inv _ σ τ (λa ha=>hA a (by rw[sg];exact Ti _ ha)) hI bQ;have b4:(0<=(p:Int)/\(p:Int)<4)=True:=(by simp;omega);have Fo:(u.testBit i|| !(bZ h y).testBit i)=true->g i=[]:=λe=>(by rw[<- hg];exact if_pos e);have Ln:(u.testBit i|| !(bZ h y).testBit i)=false->g i=(kR ((x.pieces.map (bZ h)).drop (p+1)) (u|||2^i) (t++[i])).map (dX h):=λe=>(by rw[<- hg];exact if_neg (by rw[e];simp));refine aF ?_;refine aj ?_;refine ab ?_;simp only[seval,g2,um,b4,AB nZ];refine aK ((yo hu ?_));(try simp only[seval,g2,um,b4,AB nZ]);refine yy (λh2=> ?_) (λh2=> ?_)
   ·(try simp only[seval,g2,um,b4,AB nZ]);refine aK ((yo hO ?_));(try simp only[seval]);refine aD ?_;refine⟨λh3=> ?_,λh3=> ?_⟩
    ·have aO:=Fo (by rw[h2];simpa using h3);refine bO ?_;refine ab ?_;simp only[seval,bH];exact hR _ ⟨(i+1,τ,tq),(by show 9-(i+1)<9-i;omega),⟨by omega,by rw[pU,aO,SN];exact bQ,lO⟩,bX⟩
    ·have aO:=Ln (by rw[h2];simpa using h3);have ki:(tq.map iv).length=11:=(by rw[Ta,lO.len]);have J8:4+p<tq.length:=(by rw[lO.len];omega);have By:SD.wrap ((p:Int)+1)=((p+1:Nat):Int):=(by rw[bc _ (by omega)];rfl);refine aF ?_;refine ab ?_;simp only[seval,g1,s1,um,b4];refine⟨by omega,?_⟩;rw[xF J8];refine ej 6 ?_;simp only[seval,g3,By];refine gB (wv (u|||2^i)) (dc (uU hu (show i<16 by omega) ⟨rfl,rfl⟩)) ?_;rw[By];have l5:u|||2^i<65536:=qb hu (xL (by omega));refine aK ((ih (p+1) (u|||2^i) (t++[i]) (tq.set (4+p) (i:Int)) τ M _ _ (by omega) l5 (by simp[ht]) (lO.next (by omega) nY) Dn (λa ha=>hA a (by rw[sg,aO];exact S5 _ (Ti _ ha))) (λez tH=> ?_)));have Dr:=tH.back h4 ht;have Bw:bK f ((SR 9).flatMap g) σ=match bK f (g i) τ with
       |.go s'=>bK f ((Ub (i+1) (9-(i+1))).flatMap g) s'
       |r=>r:=by
      rw[sg,re,bQ];exact re f (g i) _ τ
     rw[<- aO];have aJ:=hk ez Dr;rw[Bw]at aJ;cases hf:bK f (g i) τ with
     |go τ'=>
      simp only[cW];(try simp only[seval]);refine aD ?_;refine aF ?_;refine ab ?_;simp only[seval,bH];exact hR _ ⟨(i+1,τ',ez),(by show 9-(i+1)<9-i;omega),⟨by omega,by rw[pU,re,bQ];exact hf,Dr⟩,bX⟩
     |stop τ'=>
      rw[hf]at aJ;simp only[cW]at aJ⊢;(try simp only[seval]);refine aD ?_;refine aj ?_;refine aX ?_;exact ce aJ
     |bad τ'=>
      rw[hf]at aJ;simp only[cW]at aJ⊢;exact ce aJ
   ·(try simp only[seval]);refine aD ?_;have aO:=Fo (by rw[show u.testBit i=true by simpa using h2];rfl);refine bO ?_;refine ab ?_;simp only[seval,bH];exact hR _ ⟨(i+1,τ,tq),(by show 9-(i+1)<9-i;omega),⟨by omega,by rw[pU,aO,SN];exact bQ,lO⟩,bX⟩
  ·have dB:i=9:=(by omega);subst dB;have aJ:=hk tq lO;rw[bQ]at aJ;refine bO ?_;refine aj ?_;refine aX ?_;exact ce aJ
end
open Go.Conc Go.Proofs Go.Gg.Tk
theorem Pg{α:Type}{g:α->AV}{xs:List α}{i:Nat}{y:α}(h:i<xs.length):(xs.map g).take i++[g y]++(xs.map g).drop (i+1)=(xs.set i y).map g:=by
 rw[List.map_set,XY,if_pos (by simpa using h)];simp
namespace Tk
def qv (l:List Nat)(i:Nat):List Nat:=l.take i++TO (4-i) 0
theorem ahm{l:List Nat}{i q:Nat}(h:l[i]?=some q)(hl:l.length<=4):(qv l i).set i q=qv l (i+1):=by
 have hi:=eW h;unfold qv;rw[Ue _ _ (by simp;omega),show i-(l.take i).length=0 by simp;omega,show 4-i=(4-(i+1))+1 by omega,Wy,T9,WC,h];simp
theorem ahl{l:List Nat}{i:Nat}(hi:i<=l.length)(hl:l.length<=4):(qv l i).length=4:=by simp[qv];omega
theorem ahk{l:List Nat}:qv l l.length=l++TO (4-l.length) 0:=by simp[qv]
end Tk
theorem abd{H L:List aa}{c c':aa}(h:bJ (H++(L++[c])))(hc:∀n,eZ n c'):bJ (H++(L++[c'])):=λz hz=>by
 have hl:(H++(L++[c'])).length=(H++(L++[c])).length:=by simp
 rw[hl];rcases SV.1 hz with h'|h'
 ·exact h z (Ti _ h')
 ·rcases SV.1 h' with h'|h'
  ·exact h z (S5 _ (Ti _ h'))
  ·rw[S9.1 h'];exact hc _
theorem acT(l:List Nat)(t n:Nat):eZ n (.cells (l.map λn=>wv n) t):=by
 intro a ha;obtain⟨x,_,rfl⟩:=Tf.1 ha;exact .val _
theorem apw(l:List Int)(t n:Nat):eZ n (.cells (l.map iv) t):=by
 intro a ha;obtain⟨x,_,rfl⟩:=Tf.1 ha;exact .val _
section
variable {lv:Bool}
theorem aj5{H:List aa}{k kp:AV->List aa->Prop}{x:ak}{h:List Int}(hk:k (.fn (.func 106) [] [.op (H.length+1) 0,.op H.length 0]) (H++[.cells x.l 76,.cells (h.map iv) 83])):ba lv SA 92 H [x.av,.agg (h.map iv)] k kp:=by
 refine bD (rs:=[.tmp 4]) (nt:=6) Tryz.f92 λhH hA=> ?_;simp only[bp,SU,ak.av];refine aj ?_;refine ab ?_;simp only[seval,Uf,UH,Um,T1];refine aX ?_;exact ce hk
theorem aja{x:ak}{h:List Int}{N ir ih:Nat}{yv pv:AV}{S:Type}{f:S->List Int->dE S}{Gf:S->List aa}{I:S->Prop}{A:List Int->Prop}{σ:S}{k kp:AV->List aa->Prop}(hx:x.Ok)(hh:mM h)(hY:jQ lv SA yv f Gf N I A pv)(hr:∀σ L,(Gf σ++L)[ir]?=some (.cells x.l 76))(hi:∀σ L,(Gf σ++L)[ih]?=some (.cells (h.map iv) 83))
  (mw:∀n,Lt n pv) (hI:I σ) (hA:∀a∈(f_ x h).map (dX h),A a) (hk:gg Gf pv k kp [] (bK f ((f_ x h).map (dX h)) σ)):ba lv SA 106 (Gf σ) [yv,.op ih 0,.op ir 0] k kp:=by
 refine bD (rs:=[]) (nt:=45) Tryz.f106 λhH uY=> ?_;simp only[bp,SU];have hN:=hY.len σ;have nY:=hx.ee;have bU:x.l=[iv x.first,iv x.hours,iv x.am,c_ x.seen,aN x.pieces,aN x.aC]:=rfl;obtain⟨a,b,c,d,rfl,ha,hb,hc,hd,hs⟩:=hh.out;have okH:∀L:List aa,(∀z∈L,∀n,eZ n z)->bJ (Gf σ++L):=λL hL z hz=>by
  rcases SV.1 hz with h|h
  ·exact(hH z h).mono (by simp)
  ·exact hL z h _
 refine ab ?_;simp only[seval,hY.parts];refine ab ?_;simp only[seval,hi];refine aj ?_;refine bP ?_;refine ek 4 (λi:Nat=>[(13,iv i)]) (λi=>Gf σ++[.cells [yv] 132,.cells ((jj [a,b,c,d,0,0,0,0,0,0,0] 4 i (-1)).map iv) 86]) (λi=>True) (λ_ _=>rfl) (by simp only[seval];simp[bk,Wk.refl]) rfl (λ_ _ _=>by simp) trivial (λbw bG i cw _ R hR=> ?_);refine aj ?_;refine aD ?_;refine⟨λhc=> ?_,λhc=> ?_⟩
 ·have br:i<4:=by omega
  have b4:(0<=(i:Int)/\(i:Int)<4)=True:=by simp;omega
  have bH:SD.wrap ((i:Int)+1)=((i+1:Nat):Int):=by rw[bc _ (by omega)];rfl
  have lq:(jj [a,b,c,d,0,0,0,0,0,0,0] 4 i (-1)).length=11:=Gv (by show 4+i<=11;omega);have mo:((jj [a,b,c,d,0,0,0,0,0,0,0] 4 i (-1)).map iv).length=11:=by rw[Ta,lq]
  refine aF ?_;refine aj ?_;refine ab ?_;simp only[seval,b4,mo];refine⟨by omega,?_⟩;rw[xF (show 4+i<(jj [a,b,c,d,0,0,0,0,0,0,0] 4 i (-1)).length by omega),K3 (by show 4+i<11;omega)];refine ab ?_;simp only[seval,bH];exact hR _ ⟨br,trivial,bX⟩
 have:i=4:=by omega
 subst this;clear hc cw;refine bO ?_;refine aj ?_;rw[show jj [a,b,c,d,0,0,0,0,0,0,0] 4 4 (-1)=[a,b,c,d, -1, -1, -1, -1,0,0,0]from rfl];refine bP ?_;refine ek 3 (λi:Nat=>[(20,iv i)]) (λi=>Gf σ++[.cells [yv] 132,.cells ((jj [a,b,c,d, -1, -1, -1, -1,0,0,0] 8 i (-1)).map iv) 86]) (λi=>True) (λ_ _=>rfl) (by simp only[seval];simp[bk,Wk.refl]) rfl (λ_ _ _=>by simp) trivial (λbw bG i cw _ R hR=> ?_);refine aj ?_;refine aD ?_;refine⟨λhc=> ?_,λhc=> ?_⟩
 ·have br:i<3:=by omega
  have b4:(0<=(i:Int)/\(i:Int)<3)=True:=by simp;omega
  have bH:SD.wrap ((i:Int)+1)=((i+1:Nat):Int):=by rw[bc _ (by omega)];rfl
  have lq:(jj [a,b,c,d, -1, -1, -1, -1,0,0,0] 8 i (-1)).length=11:=Gv (by show 8+i<=11;omega);have mo:((jj [a,b,c,d, -1, -1, -1, -1,0,0,0] 8 i (-1)).map iv).length=11:=by rw[Ta,lq]
  refine aF ?_;refine aj ?_;refine ab ?_;simp only[seval,b4,mo];refine⟨by omega,?_⟩;rw[xF (show 8+i<(jj [a,b,c,d, -1, -1, -1, -1,0,0,0] 8 i (-1)).length by omega),K3 (by show 8+i<11;omega)];refine ab ?_;simp only[seval,bH];exact hR _ ⟨br,trivial,bX⟩
 have:i=3:=by omega
 subst this;clear hc cw;refine bO ?_;rw[show jj [a,b,c,d, -1, -1, -1, -1,0,0,0] 8 3 (-1)=[a,b,c,d, -1, -1, -1, -1, -1, -1, -1]from rfl];refine aj ?_;refine ab ?_;simp only[seval,hr,bU,aN];refine bP ?_;refine ek x.pieces.length (λi:Nat=>[(31,iv i)]) (λi=>Gf σ++[.cells [yv] 132,.cells ([a,b,c,d, -1, -1, -1, -1, -1, -1, -1].map iv) 86,.cells ((qv (x.pieces.map (bZ [a,b,c,d])) i).map λn=>wv n) 80]) (λi=>True) (λ_ _=>rfl) (by simp only[seval];simp[bk,Wk.refl]) rfl (λ_ _ _=>by simp) trivial (λbw bG i cw _ R hR=> ?_);refine aj ?_;refine aD ?_;refine⟨λhc=> ?_,λhc=> ?_⟩
 ·have br:i<x.pieces.length:=by omega
  obtain⟨y,hy⟩:=bE br;have vG:(x.pieces.map (bZ [a,b,c,d]))[i]?=some (bZ [a,b,c,d] y):=by rw[Tp,hy];rfl
  have b4:(0<=(i:Int)/\(i:Int)<4)=True:=by simp;omega
  have bH:SD.wrap ((i:Int)+1)=((i+1:Nat):Int):=by rw[bc _ (by omega)];rfl
  have cO:(qv (x.pieces.map (bZ [a,b,c,d])) i).length=4:=ahl (by simp;omega) (by simpa using nY);have wS:((qv (x.pieces.map (bZ [a,b,c,d])) i).map λn=>wv n).length=4:=by rw[Ta,cO]
  refine aF ?_;refine ab ?_;simp only[seval,xG hy,iR br];refine ab ?_;simp only[seval,hi,b4];refine aK ((Gu (h:=[a,b,c,d]) (y:=y) hh ?_));(try simp only[seval,b4,wS]);refine⟨by omega,?_⟩;rw[Pg (g:=λn=>wv n) (show i<(qv (x.pieces.map (bZ [a,b,c,d])) i).length by omega),ahm vG (by simpa using nY)];refine ab ?_;simp only[seval,bH];exact hR _ ⟨br,trivial,BU (lC rfl rfl) (by simp only[seval];simp[bk,Wk.refl]) (abd (L:=[_,_]) bw (acT _ _)) (by simp[dZ])⟩
 have:i=x.pieces.length:=by omega
 subst this;clear hc cw;refine bO ?_;refine aj ?_;refine ab ?_;simp only[seval,Uf,UH,Um,T1];refine aj ?_;have oY:qv (x.pieces.map (bZ [a,b,c,d])) x.pieces.length=x.pieces.map (bZ [a,b,c,d])++TO (4-x.pieces.length) 0:=by
  have:=ahk (l:=x.pieces.map (bZ [a,b,c,d]));simpa using this
 refine aK (?_);rw[hN];have sw:∀n,Lt n (.aQ []):=λn=>by simp[jM]
 have hT0:∀ez,pt [a,b,c,d] x.pieces.length 0 [] ez->True:=λ_ _=>trivial;refine ajb (x:=x) (h:=[a,b,c,d]) hx rfl hY hr oY x.pieces.length 0 0 [] [a,b,c,d, -1, -1, -1, -1, -1, -1, -1] σ [] _ _ rfl (by decide) rfl ⟨rfl,rfl,?_⟩ hI hA (λez tH=> ?_)
 ·have:x.pieces.length=0\/x.pieces.length=1\/x.pieces.length=2\/x.pieces.length=3\/x.pieces.length=4:=by omega
  rcases this with e|e|e|e|e<;>rw[e]<;>rfl
 change cW Gf pv _ _ _ (bK f ((f_ x [a,b,c,d]).map (dX [a,b,c,d])) σ);cases hf:bK f ((f_ x [a,b,c,d]).map (dX [a,b,c,d])) σ with
 |go s=>
  rw[hf]at hk;simp only[cW,gg]at hk⊢;rw[SN]at hk;(try simp only[seval]);rw[<- hN];exact vY hY hH sw hk
 |stop s=>
  rw[hf]at hk;simp only[cW,gg]at hk⊢;rw[SN]at hk;(try simp only[seval]);rw[<- hN];exact vY hY hH sw hk
 |bad s=>
  rw[hf]at hk;simp only[cW,gg]at hk⊢;rw[SN]at hk;rw[<- hN];exact vY hY hH mw hk
end
open Go.Conc Go.Proofs Go.Gg.Tk
namespace Tk
structure oz (h:List Int)(ns:List Nat)(k s:Nat)(o:List Nat)(tc:List Int):Prop where
 len:tc.length=11
 pre:tc.take (8+s)=h++lG 4 ns++o.map λn:Nat=>(n:Int)
 tl:tc.drop (8+k)=TO (3-k) (-1)
theorem oz.all{h:List Int}{ns:List Nat}{k:Nat}{o:List Nat}{tc:List Int}(ho:o.length=k)(n:oz h ns k k o tc):tc=dC h ns o:=by
 have:=Vu (8+k) tc;rw[n.pre,n.tl]at this;rw[<- this];unfold dC
 conv=>rhs;unfold lG
 rw[ho,SC];rfl
theorem BP{k:Nat}{l:List Nat}(h:l.length<=k):(lG k l).length=k:=by simp[lG];omega
theorem oz.back{h:List Int}{ns:List Nat}{k s:Nat}{o:List Nat}{n:Nat}{tc:List Int}(h4:h.length=4)(hn:ns.length<=4)(ho:o.length=s)(q:oz h ns k (s+1) (o++[n]) tc):oz h ns k s o tc:=by
 refine⟨q.len,?_,q.tl⟩;have e:tc.take (8+s)=(tc.take (8+(s+1))).take (8+s):=by rw[Vd];congr 1;omega
 have hp:=BP hn;rw[e,q.pre,To,<- SC,TB (by simp[h4,ho,hp];omega),SW (by simp[h4,ho,hp];omega)]
theorem oz.next{h:List Int}{ns:List Nat}{k s:Nat}{o:List Nat}{n:Nat}{tc:List Int}(hp:s<k)(hk:k<=3)(q:oz h ns k s o tc):oz h ns k (s+1) (o++[n]) (tc.set (8+s) (n:Int)):=by
 refine⟨by rw[TK];exact q.len,?_,?_⟩
 ·rw[show 8+(s+1)=(8+s)+1 by omega,Px (by rw[q.len];omega),q.pre];simp
 ·rw[Rz (by omega)];exact q.tl
theorem oz.num{h:List Int}{ns:List Nat}{k s p:Nat}{o:List Nat}{tc:List Int}(h4:h.length=4)(hn:ns.length<=4)(hp:p<ns.length)(q:oz h ns k s o tc):tc[4+p]?=some ((ns.getD p 0:Nat):Int):=by
 have h1:(tc.take (8+s))[4+p]?=some ((ns.getD p 0:Nat):Int):=by
  rw[q.pre,SC,S_ (by omega),h4,show 4+p-4=p by omega,S0 (by rw[BP hn];omega)];unfold lG;rw[S0 (by simpa using hp),Tp,SE,SY hp];rfl
 rwa [Ui,if_pos (by omega)]at h1
theorem apL{h:List Int}{ns:List Nat}{k q:Nat}{qs:List Nat}{u:Nat}{o:List Nat}:(mG k ns (q::qs) u o).map (dC h ns)=(SR k).flatMap λp=>if u.testBit p|| !q.testBit (ns.getD p 0)then[]else(mG k ns qs (u|||2^p) (o++[p])).map (dC h ns):=by
 rw[mG,Vl];congr 1;funext n;split<;>rfl
end Tk
open Go.Conc Go.Proofs Go.Gg.Tk
section
variable {lv:Bool}
def zF (yv:AV)(N ir it is:Nat):List aa:=[.cells [yv] 132,.cells [.fn (.func 109) [] [.op ir 0,.op N 0,.op it 0,.op is 0,.op (N+1) 0]] 157]
theorem ajd{x:ak}{h:List Int}{ns qs:List Nat}{N ir it is:Nat}{yv pv:AV}{S:Type}{f:S->List Int->dE S}{Gf:List Int->S->List aa}{I:S->Prop}{A:List Int->Prop}(hx:x.Ok)(h4:h.length=4)(iz:ns.length=x.pieces.length)(hY:∀tc,jQ lv SA yv f (Gf tc) N I A pv)(hr:∀tc σ L,(Gf tc σ++L)[ir]?=some (.cells x.l 76))
  (ht:∀tc σ L,(Gf tc σ++L)[it]?=some (.cells (tc.map iv) 86)) (dU:∀tc ez σ L,(Gf tc σ++L).set it (.cells (ez.map iv) 86)=Gf ez σ++L) (hs:∀tc σ L,(Gf tc σ++L)[is]?=some (.cells (qs.map λn=>wv n) 81)) (Bp:∃r,qs=x.aC.map (bZ h)++r) (y_:qs.length=3):
  ∀(d s u:Nat)(o:List Nat)(tc:List Int)(σ:S)(M:List aa)(k kp:AV->List aa->Prop),d+s=x.aC.length->u<65536->o.length=s->oz h ns x.aC.length s o tc->I σ->(∀a∈(mG x.pieces.length ns ((x.aC.map (bZ h)).drop s) u o).map (dC h ns),A a)->
   (∀ez,oz h ns x.aC.length s o ez->cW (Gf ez) pv k kp (zF yv N ir it is++M) (bK f ((mG x.pieces.length ns ((x.aC.map (bZ h)).drop s) u o).map (dC h ns)) σ))->
   ba lv SA 109 (Gf tc σ++(zF yv N ir it is++M)) [iv s,wv u,.op ir 0,.op N 0,.op it 0,.op is 0,.op (N+1) 0] k kp:=by
 intro d;induction d with
 |zero=>
  intro s u o tc σ M k kp pI hu ho hT hI hA hk;refine bD (rs:=[.tmp 9]) (nt:=54) an' λhH uY=> ?_;simp only[bp,SU];have bU:x.l=[iv x.first,iv x.hours,iv x.am,c_ x.seen,aN x.pieces,aN x.aC]:=rfl;have g0:∀(tc:List Int)(σ:S)(L:List aa),(Gf tc σ++L)[N]?=L[0]?:=λtc σ L=>(hY tc).get σ L 0;have cL:s=x.aC.length:=by omega
  have wW:(x.aC.map (bZ h)).drop s=[]:=T7 (by simp;omega);rw[wW,mG]at hA hk;rw[Zk]at hA hk;rw[O_]at hk;have zf:tc=dC h ns o:=by subst cL;exact hT.all ho
  have ki:(tc.map iv).length=11:=by rw[Ta,hT.len]
  refine aj ?_;refine ab ?_;simp only[seval,hr,bU,aN];refine aD ?_;refine⟨λhc=> ?_,λhc=>by exfalso;simp at hc;omega⟩;refine ab ?_;simp only[seval,g0,ht,zF,ki];rw[SW (i:=11) (l:=tc.map iv) (by rw[ki];exact SO _)];rw[<- zf]at hA hk;have aJ:=hk tc hT;refine ye ((hY tc).call σ tc (zF yv N ir it is++M) _ _ hI (hA _ (by simp)) ?_);cases hf:f σ tc with
  |go σ'=>
   rw[hf]at aJ;simp only[cW]at aJ⊢;(try simp only[seval]);refine aX ?_;exact ce aJ
  |stop σ'=>
   rw[hf]at aJ;simp only[cW]at aJ⊢;(try simp only[seval]);refine aX ?_;exact ce aJ
  |bad σ'=>
   rw[hf]at aJ;simp only[cW]at aJ⊢;exact ce aJ
 |succ d ihd=>
  intro s u o tc σ M k kp pI hu ho hT hI hA hk;refine bD (rs:=[.tmp 9]) (nt:=54) an' λhH uY=> ?_;simp only[bp,SU];have bU:x.l=[iv x.first,iv x.hours,iv x.am,c_ x.seen,aN x.pieces,aN x.aC]:=rfl;have g1:∀(tc:List Int)(σ:S)(L:List aa),(Gf tc σ++L)[N+1]?=L[1]?:=λtc σ L=>(hY tc).get σ L 1;have nY:=hx.ee;have zd:=hx.db;obtain⟨y,hy⟩:=bE (xs:=x.aC) (i:=s) (by omega);have vG:(x.aC.map (bZ h))[s]?=some (bZ h y):=by rw[Tp,hy];rfl
  have nZ:qs[s]?=some (bZ h y):=by obtain⟨r,e⟩:=Bp;rw[e,S0 (by simp;omega)];exact vG
  have hO:bZ h y<65536:=Wr (Sq h y) (by decide);have aH:¬(s:Int)=(x.aC.length:Int):=by omega
  rw[wG vG,apL]at hA hk;generalize hg:(λp=>if u.testBit p|| !(bZ h y).testBit (ns.getD p 0)then[]else(mG x.pieces.length ns ((x.aC.map (bZ h)).drop (s+1)) (u|||2^p) (o++[p])).map (dC h ns))=g at hA hk;refine aj ?_;refine ab ?_;simp only[seval,hr,bU,aN];refine aD ?_;refine⟨λhc=>by exfalso;exact aH (by simpa using hc),λhc=> ?_⟩;refine aF ?_;refine ab ?_;simp only[seval,hr,bU,aN];refine bP ?_;refine An (measure λm:Nat×S×List Int=>x.pieces.length-m.1).wf (λm=>[(24,iv (m.1:Nat))]) (λm=>Gf m.2.2 m.2.1++(zF yv N ir it is++M)) (λm=>m.1<=x.pieces.length/\bK f ((SR m.1).flatMap g) σ=.go m.2.1/\oz h ns x.aC.length s o m.2.2) (0,σ,tc) (λ_ _=>rfl) (by intro p hp;simp at hp;subst hp;exact⟨_,rfl,Wk.refl _⟩) rfl (λ_ _=>by simp[zF,(hY _).len]) ⟨by omega,rfl,hT⟩ (λbw bG m aq R hR=> ?_);obtain⟨i,τ,tq⟩:=m;obtain⟨hi,bQ,lO⟩:=aq;replace hi:i<=x.pieces.length:=hi;replace bQ:bK f ((SR i).flatMap g) σ=.go τ:=bQ;replace lO:oz h ns x.aC.length s o tq:=lO;refine aj ?_;refine aD ?_;refine⟨λhc=> ?_,λhc=> ?_⟩
  ·have br:i<x.pieces.length:=(by omega);have bH:SD.wrap ((i:Int)+1)=((i+1:Nat):Int):=(by rw[bc _ (by omega)];rfl);have hws:SD.wrap ((s:Int)+1)=((s+1:Nat):Int):=(by rw[bc _ (by omega)];rfl);have sg:=Ld g br;have pU:=Lf g i;have Dn:I τ:=BV (A:=A) (hY tc).inv _ σ τ (λa ha=>hA a (by rw[sg];exact Ti _ ha)) hI bQ;have b3:(0<=(s:Int)/\(s:Int)<3)=True:=(by simp;omega);have b4:(0<=(i:Int)/\(i:Int)<4)=True:=(by simp;omega);have Fo:(u.testBit i|| !(bZ h y).testBit (ns.getD i 0))=true->g i=[]:=λe=>(by rw[<- hg];exact if_pos e);have Ln:(u.testBit i|| !(bZ h y).testBit (ns.getD i 0))=false->g i=(mG x.pieces.length ns ((x.aC.map (bZ h)).drop (s+1)) (u|||2^i) (o++[i])).map (dC h ns):=λe=>(by rw[<- hg];exact if_neg (by rw[e];simp));have abc:=lO.num h4 (by omega) (show i<ns.length by omega);refine aF ?_;refine aj ?_;refine ej 14 ?_;simp only[seval,ht,hs,b3,b4,AB nZ,lc abc];refine gB (bv (u.testBit i)) (dc (yo hu ⟨rfl,rfl⟩)) ?_;(try simp only[seval]);refine yy (λh2=> ?_) (λh2=> ?_)
   ·(try simp only[seval,ht,hs,b3,b4,AB nZ,lc abc]);refine gB (bv ((bZ h y).testBit (ns.getD i 0))) (dc (yo hO ⟨rfl,rfl⟩)) ?_;(try simp only[seval]);refine aD ?_;refine⟨λh3=> ?_,λh3=> ?_⟩
    ·have aO:=Fo (by rw[h2];simpa using h3);refine bO ?_;refine ab ?_;simp only[seval,bH];exact hR _ ⟨(i+1,τ,tq),(by show x.pieces.length-(i+1)<x.pieces.length-i;omega),⟨by omega,by rw[pU,aO,SN];exact bQ,lO⟩,bX⟩
    ·have aO:=Ln (by rw[h2];simpa using h3);have ki:(tq.map iv).length=11:=(by rw[Ta,lO.len]);have J8:8+s<tq.length:=(by rw[lO.len];omega);refine aF ?_;refine ab ?_;simp only[seval,ht,b3,ki];refine⟨by omega,?_⟩;rw[xF J8,dU];refine ej 6 ?_;simp only[seval,g1,zF];refine gB (wv (u|||2^i)) (dc (uU hu (show i<16 by omega) ⟨rfl,rfl⟩)) ?_;rw[hws];have l5:u|||2^i<65536:=qb hu (xL (by omega));refine aK ((ihd (s+1) (u|||2^i) (o++[i]) (tq.set (8+s) (i:Int)) τ M _ _ (by omega) l5 (by simp[ho]) (lO.next (by omega) zd) Dn (λa ha=>hA a (by rw[sg,aO];exact S5 _ (Ti _ ha))) (λez tH=> ?_)));have Dr:=tH.back h4 (by omega) ho;have Bw:bK f ((SR x.pieces.length).flatMap g) σ=match bK f (g i) τ with
       |.go s'=>bK f ((Ub (i+1) (x.pieces.length-(i+1))).flatMap g) s'
       |r=>r:=by
      rw[sg,re,bQ];exact re f (g i) _ τ
     rw[<- aO];have aJ:=hk ez Dr;rw[Bw]at aJ;cases hf:bK f (g i) τ with
     |go τ'=>
      simp only[cW];(try simp only[seval]);refine aD ?_;refine aF ?_;refine ab ?_;simp only[seval,bH];exact hR _ ⟨(i+1,τ',ez),(by show x.pieces.length-(i+1)<x.pieces.length-i;omega),⟨by omega,by rw[pU,re,bQ];exact hf,Dr⟩,bX⟩
     |stop τ'=>
      rw[hf]at aJ;simp only[cW]at aJ⊢;(try simp only[seval]);refine aD ?_;refine aj ?_;refine aX ?_;exact ce aJ
     |bad τ'=>
      rw[hf]at aJ;simp only[cW]at aJ⊢;exact ce aJ
   ·(try simp only[seval]);refine aD ?_;have aO:=Fo (by rw[show u.testBit i=true by simpa using h2];rfl);refine bO ?_;refine ab ?_;simp only[seval,bH];exact hR _ ⟨(i+1,τ,tq),(by show x.pieces.length-(i+1)<x.pieces.length-i;omega),⟨by omega,by rw[pU,aO,SN];exact bQ,lO⟩,bX⟩
  ·have dB:i=x.pieces.length:=(by omega);subst dB;have aJ:=hk tq lO;rw[bQ]at aJ;refine bO ?_;refine aj ?_;refine aX ?_;exact ce aJ
theorem aj6{H:List aa}{k kp:AV->List aa->Prop}{x:ak}{tc:List Int}{qs:List Nat}(hk:k (.fn (.func 108) [] [.op H.length 0,.op (H.length+1) 0,.op (H.length+2) 0]) (H++[.cells x.l 76,.cells (tc.map iv) 86,.cells (qs.map λn=>wv n) 81])):ba lv SA 93 H [x.av,.agg (tc.map iv),.agg (qs.map λn=>wv n)] k kp:=by
 refine bD (rs:=[.tmp 6]) (nt:=8) Tryz.f93 λhH hA=> ?_;simp only[bp,SU,ak.av];refine aj ?_;refine ab ?_;simp only[seval,Uf,UH,Um,T1];refine aX ?_;exact ce hk
theorem ajc{x:ak}{h:List Int}{ns qs:List Nat}{N ir it is:Nat}{yv pv:AV}{S:Type}{f:S->List Int->dE S}{Gf:List Int->S->List aa}{I:S->Prop}{A:List Int->Prop}{tc:List Int}{σ:S}{k kp:AV->List aa->Prop}(hx:x.Ok)(h4:h.length=4)(iz:ns.length=x.pieces.length)(hY:∀tc,jQ lv SA yv f (Gf tc) N I A pv)(hr:∀tc σ L,(Gf tc σ++L)[ir]?=some (.cells x.l 76))
  (ht:∀tc σ L,(Gf tc σ++L)[it]?=some (.cells (tc.map iv) 86)) (dU:∀tc ez σ L,(Gf tc σ++L).set it (.cells (ez.map iv) 86)=Gf ez σ++L) (hs:∀tc σ L,(Gf tc σ++L)[is]?=some (.cells (qs.map λn=>wv n) 81)) (Bp:∃r,qs=x.aC.map (bZ h)++r) (y_:qs.length=3)
  (aq:∀m tc ez σ,(∀z∈Gf tc σ,eZ m z)->∀z∈Gf ez σ,eZ m z) (mw:∀n,Lt n pv) (zf:tc=dX h ns) (hI:I σ) (hA:∀a∈(iD x h ns).map (dC h ns),A a) (hk:∀ez,ez.length=11->gg (Gf ez) pv k kp [] (bK f ((iD x h ns).map (dC h ns)) σ)):ba lv SA 108 (Gf tc σ) [yv,.op ir 0,.op it 0,.op is 0] k kp:=by
 refine bD (rs:=[]) (nt:=9) Tryz.f108 λhH uY=> ?_;simp only[bp,SU];have hN:=(hY tc).len σ;have nY:=hx.ee;have zd:=hx.db;refine ab ?_;simp only[seval,(hY tc).parts];refine aj ?_;refine ab ?_;simp only[seval,Uf,UH,Um,T1];refine aj ?_;refine aK (?_);rw[hN];have sw:∀n,Lt n (.aQ []):=λn=>by simp[jM]
 have cL:=BP (k:=4) (l:=ns) (by omega);have cut:∀(ez:List Int)(σ':S)(L:List aa)(a:AV)(k:AV->List aa->Prop),(∀n,Lt n a)->k a (Gf ez σ')->cH (Gf tc σ).length (Gf ez σ'++L) a k:=λez σ' L a k ha aJ=>by
  refine jE (H':=Gf ez σ') (Wk.refl _) rfl (by rw[(hY ez).len,(hY tc).len];exact SO _) ?_ (ha _) aJ;intro z hz;have h1:∀z∈Gf ez σ,eZ N z:=aq N tc ez σ (λw hw=>by have:=hH w hw;rwa [hN]at this);rw[(hY ez).len];exact(hY ez).ok N σ σ' h1 z hz
 refine ajd (x:=x) (h:=h) (ns:=ns) (qs:=qs) hx h4 iz hY hr ht dU hs Bp y_ x.aC.length 0 0 [] tc σ [] _ _ rfl (by decide) rfl ⟨?_,?_,?_⟩ hI hA (λez tH=> ?_)
 ·rw[zf];simp[dX,h4,cL]
 ·rw[zf];unfold dX;rw[ZU,SN,TB (by simp[h4,cL]),SW (by simp[h4,cL])]
 ·rw[zf];unfold dX;rw[VD,T7 (by simp[h4,cL]),UN];have:(h++lG 4 ns).length=8:=by simp[h4,cL]
  rw[this];have:x.aC.length=0\/x.aC.length=1\/x.aC.length=2\/x.aC.length=3:=by omega
  rcases this with e|e|e|e<;>rw[e]<;>rfl
 have hk:=hk ez tH.len;change cW (Gf ez) pv _ _ _ (bK f ((iD x h ns).map (dC h ns)) σ);cases hf:bK f ((iD x h ns).map (dC h ns)) σ with
 |go s=>
  rw[hf]at hk;simp only[cW,gg]at hk⊢;rw[SN]at hk;(try simp only[seval]);rw[<- hN];exact cut _ _ _ _ _ sw hk
 |stop s=>
  rw[hf]at hk;simp only[cW,gg]at hk⊢;rw[SN]at hk;(try simp only[seval]);rw[<- hN];exact cut _ _ _ _ _ sw hk
 |bad s=>
  rw[hf]at hk;simp only[cW,gg]at hk⊢;rw[SN]at hk;rw[<- hN];exact cut _ _ _ _ _ mw hk
end
section
variable {lv:Bool}{P:SI}{s:AS}{ms:List Nat}{bs:List U8}{nt:Nat}
theorem ag4{f:Tl}{ps:Array Tmp}{bS body:Uc}{fv:AV}{Φ:an->AS->List Nat->Prop}(hf:s.ev f=some fv)
  (h:∀(l fn:Nat)(T:List (Nat×AV))(ag bo:Uc),T=s.T->ag=bS->bo=body->je lv P fv (s.H++[.obj (.deferred (some [])),.loop l .ready none fn T nt ps ag bo s.H.length]) [.fn (.yield l) [] []]
   (λ_ H'=>∃st pe fG T' jr gA gh fw gk,H'[s.H.length+1]?=some (.loop l st pe fG T' jr gA gh fw gk)/\st≠ .busy/\s7 Φ ⟨s.T,H'.set (s.H.length+1) .gone⟩ (s.H.length::ms) pe)
   (λpv H'=>Φ (.panic pv) ⟨s.T,H'⟩ (s.H.length::ms))):mL lv P nt (.rangeFunc f ps bS body) s ms Φ:=ag3 hf λl fn=>h l fn _ _ _ rfl rfl rfl
theorem J5{f:Tl}{ps:Array Tmp}{bS body:Uc}{fv:AV}{Φ:an->AS->List Nat->Prop}(hf:s.ev f=some fv)
  (h:∀(l fn:Nat)(T:List (Nat×AV))(ag bo:Uc),T=s.T->ag=bS->bo=body->je lv P fv (s.H++[.obj (.deferred (some [])),.loop l .ready none fn T nt ps ag bo s.H.length]) [.fn (.yield l) [] []]
   (λ_ H'=>∃st pe fG T' jr gA gh fw gk,H'[s.H.length+1]?=some (.loop l st pe fG T' jr gA gh fw gk)/\st≠ .busy/\s7 Φ ⟨s.T,H'.set (s.H.length+1) .gone⟩ (s.H.length::ms) pe)
   (λpv H'=>Φ (.panic pv) ⟨s.T,H'⟩ (s.H.length::ms))):kB lv P nt bs (.rangeFunc f ps bS body) s ms Φ:=ag7 hf λl fn=>h l fn _ _ _ rfl rfl rfl
theorem F'{f:Tl}{ps:Array Tmp}{bS body:Uc}{fv:AV}{Φ:an->AS->Prop}{l0:Nat}(HX:Nat){Lh Ov df:Nat}{Pq:af'}{OJ:Option Uc}{T0:List (Nat×AV)}{O2:Array Tmp}{JV J_:Uc}(hf:s.ev f=some fv)(h0:s.H[HX]?=some (.loop l0 Pq OJ Lh T0 Ov O2 JV J_ df))
  (h:∀(l fn:Nat)(T:List (Nat×AV))(ag bo:Uc),T=s.T->ag=bS->bo=body->je lv P fv (s.H++[.loop l .ready none fn T nt ps ag bo df]) [.fn (.yield l) [] []]
   (λ_ H'=>∃st pe fG T' jr gA gh fw gk,H'[s.H.length]?=some (.loop l st pe fG T' jr gA gh fw gk)/\st≠ .busy/\uF Φ ⟨s.T,H'.set s.H.length .gone⟩ pe)
   (λpv H'=>Φ (.panic pv) ⟨s.T,H'⟩)):aR lv P (some l0) nt (.rangeFunc f ps bS body) s Φ:=agS hf h0 λl fn=>h l fn _ _ _ rfl rfl rfl
end
section
variable {P:SI}
theorem IL(Φ:an->AS->List Nat->Prop)(s:AS)(ms:List Nat):s7 Φ s ms none=Φ .normal s ms:=by rw[s7]
theorem aqc(Φ:an->AS->List Nat->Prop)(s:AS)(ms:List Nat):s7 Φ s ms (some .ret)=Φ .ret s ms:=by rw[s7]
theorem IM(Φ:an->AS->Prop)(s:AS):uF Φ s none=Φ .normal s:=by rw[uF]
theorem aqe(Φ:an->AS->Prop)(s:AS):uF Φ s (some .ret)=Φ .ret s:=by rw[uF]
theorem aqd(Φ:an->AS->Prop)(s:AS)(i:Nat):uF Φ s (some (.exit i))=Φ (.exit i) s:=by rw[uF]
theorem ahq(id:Nat)(Φ:an->AS->List Nat->Prop)(s:AS)(ms:List Nat):an.qw id Φ .ret s ms=Φ .ret s ms:=by rw[an.qw];simp
theorem ahp(id:Nat)(Φ:an->AS->List Nat->Prop)(pv:AV)(s:AS)(ms:List Nat):an.qw id Φ (.panic pv) s ms=Φ (.panic pv) s ms:=by rw[an.qw];simp
theorem asA(Φ:an->AS->List Nat->Prop)(pv:AV)(s:AS)(ms:List Nat):an.v8 Φ (.panic pv) s ms=Φ (.panic pv) s ms:=by rw[an.v8];simp
theorem ato(K:AS->List Nat->Prop)(Φ:an->AS->List Nat->Prop)(pv:AV)(s:AS)(ms:List Nat):an.sM K Φ (.panic pv) s ms=Φ (.panic pv) s ms:=by rw[an.sM];simp
theorem akx(rs:List UU)(n:Nat)(k kp:AV->List aa->Prop)(s:AS)(ms:List Nat):sW P rs n k kp .normal s ms=ao (iS ms s.H) λH'=>ao (ig P ⟨s.T,H'⟩ rs) λl=>cH n H' (jc l) k:=by rw[sW]
theorem aky(rs:List UU)(n:Nat)(k kp:AV->List aa->Prop)(pv:AV)(s:AS)(ms:List Nat):sW P rs n k kp (.panic pv) s ms=ao (iS ms s.H) λH'=>cH n H' pv kp:=by rw[sW]
attribute [seval] ahq ahp asA ato akx aky
end
inductive Lp where
 |ready
 |ret
 |exit (i:Nat)
 |busy
def Lp.st:Lp->af'
 |.ready=> .ready
 |.ret=> .done
 |.exit _=> .done
 |.busy=> .busy
def Lp.pe:Lp->Option Uc
 |.ready=>none
 |.ret=>some .ret
 |.exit i=>some (.exit i)
 |.busy=>none
namespace Tk
def dE.map {S T:Type}(g:S->T):dE S->dE T
 |.go s=> .go (g s)
 |.stop s=> .stop (g s)
 |.bad s=> .bad (g s)
def dE.fin {S:Type}:dE S->Bool×S
 |.go s=>(false,s)
 |.stop s=>(false,s)
 |.bad s=>(true,s)
end Tk
theorem O8{S:Type}{Gf:S->List aa}{pv:AV}{k kp:AV->List aa->Prop}{M:List aa}{r r':dE S}(h:r.fin=r'.fin)(hk:gg Gf pv k kp M r):gg Gf pv k kp M r':=by
 cases r<;>cases r'<;>simp only[dE.fin,Vb]at h<;>first
  |(obtain⟨_,rfl⟩:=h;exact hk)
  |(exact absurd h.1 (by decide))
end Go.Gg
namespace Go.Gg.Tk
open Go.Gg
def jd {S:Type}(f:S->List Int->dE S)(deep:Int)(m:S×Lp)(b:List Int):dE (S×Lp):=match f m.1 b with
 |.go σ=>if deep=0 then .stop (σ,.ret)else if deep=1 then .stop (σ,.exit 3)else .go (σ,.ready)
 |.stop σ=> .stop (σ,.ret)
 |.bad σ=> .bad (σ,.busy)
def kY {S:Type}:dE (S×Lp)->dE (S×Lp)
 |.go m=> .go (m.1,.ready)
 |.stop (σ,.ret)=> .stop (σ,.ret)
 |.stop (σ,_)=> .go (σ,.ready)
 |.bad m=> .bad (m.1,.busy)
def qf {S:Type}(f:S->List Int->dE S)(deep:Int)(L:List Int->List (List Int))(m:S×Lp)(a:List Int):dE (S×Lp):=kY (bK (jd f deep) (L a) (m.1,.ready))
def sE (deep:Int)(ll:List (List (List Int))):List (List Int):=if deep=0 then ll.flatten.take 1 else if deep=1 then(ll.map (·.take 1)).flatten else ll.flatten
theorem atB{S:Type}{f:S->List Int->dE S}{σ:S}{l:Lp}:∀(M:List (List Int)),bK (jd f 0) M (σ,l)=match M with
  |[]=> .go (σ,l)
  |b::_=>match f σ b with
   |.go τ=> .stop (τ,.ret)
   |.stop τ=> .stop (τ,.ret)
   |.bad τ=> .bad (τ,.busy)
 |[]=>rfl
 |b::M=>by
  simp only[bK,jd];cases f σ b<;>simp
theorem atC{S:Type}{f:S->List Int->dE S}{σ:S}{l:Lp}:∀(M:List (List Int)),bK (jd f 1) M (σ,l)=match M with
  |[]=> .go (σ,l)
  |b::_=>match f σ b with
   |.go τ=> .stop (τ,.exit 3)
   |.stop τ=> .stop (τ,.ret)
   |.bad τ=> .bad (τ,.busy)
 |[]=>rfl
 |b::M=>by
  simp only[bK,jd];cases f σ b<;>simp
theorem aeI{S:Type}{f:S->List Int->dE S}{deep:Int}(h0:deep≠0)(h1:deep≠1):∀(M:List (List Int))(σ:S),bK (jd f deep) M (σ,.ready)=match bK f M σ with
  |.go τ=> .go (τ,.ready)
  |.stop τ=> .stop (τ,.ret)
  |.bad τ=> .bad (τ,.busy)
 |[],σ=>rfl
 |b::M,σ=>by
  simp only[bK,jd,h0,h1,if_false];cases f σ b with
  |go τ=>exact aeI h0 h1 M τ
  |stop τ=>rfl
  |bad τ=>rfl
theorem aeJ{S:Type}{f:S->List Int->dE S}{deep:Int}{L:List Int->List (List Int)}:∀(l:List (List Int))(σ:S),((bK (qf f deep L) l (σ,.ready)).map Prod.fst).fin=(bK f (sE deep (l.map L)) σ).fin/\(∀m,bK (qf f deep L) l (σ,.ready)=.go m->m.2=.ready)
 |[],σ=>by
  have:sE deep (([]:List (List Int)).map L)=[]:=by
   unfold sE;by_cases h0:deep=0
   ·rw[if_pos h0];rfl
   ·by_cases h1:deep=1
    ·rw[if_neg h0,if_pos h1];rfl
    ·rw[if_neg h0,if_neg h1];rfl
  rw[this];exact⟨rfl,λm h=>by cases h;rfl⟩
 |a::l,σ=>by
  have ih:=aeJ (f:=f) (deep:=deep) (L:=L) l;by_cases h0:deep=0
  ·subst h0;have hp:sE 0 ((a::l).map L)=(L a++(l.map L).flatten).take 1:=rfl;have jZ:sE 0 (l.map L)=((l.map L).flatten).take 1:=rfl;rw[hp];simp only[bK,qf,atB];cases hL:L a with
   |nil=>
    simp only[kY,UN];rw[<- jZ];exact ih σ
   |cons b M=>
    simp only[Vs,VZ,Zh];cases hf:f σ b with
    |go τ=>simp only[kY,bK,hf];exact⟨rfl,λm h=>by cases h⟩
    |stop τ=>simp only[kY,bK,hf];exact⟨rfl,λm h=>by cases h⟩
    |bad τ=>simp only[kY,bK,hf];exact⟨rfl,λm h=>by cases h⟩
  by_cases h1:deep=1
  ·subst h1;have hp:sE 1 ((a::l).map L)=(L a).take 1++sE 1 (l.map L):=rfl;rw[hp,re];simp only[bK,qf,atC];cases hL:L a with
   |nil=>
    simp only[kY,List.take_nil,bK];exact ih σ
   |cons b M=>
    simp only[VZ,Zh,bK];cases hf:f σ b with
    |go τ=>simp only[kY];exact ih τ
    |stop τ=>simp only[kY];exact⟨rfl,λm h=>by cases h⟩
    |bad τ=>simp only[kY];exact⟨rfl,λm h=>by cases h⟩
  ·have hp:sE deep ((a::l).map L)=L a++sE deep (l.map L):=(by unfold sE;rw[if_neg h0,if_neg h1,if_neg h0,if_neg h1];rfl);rw[hp,re];simp only[bK,qf];rw[aeI h0 h1];cases hf:bK f (L a) σ with
   |go τ=>simp only[kY];exact ih τ
   |stop τ=>simp only[kY];exact⟨rfl,λm h=>by cases h⟩
   |bad τ=>simp only[kY];exact⟨rfl,λm h=>by cases h⟩
theorem Pa{S α:Type}{F:S->α->dE S}:∀{l:List α}{s s':S},bK F l s=.stop s'->∃t a,F t a=.stop s'
 |[],s,s',h=>by cases h
 |a::l,s,s',h=>by
  simp only[bK]at h;cases hf:F s a with
  |go t=>rw[hf]at h;exact Pa h
  |stop t=>rw[hf]at h;cases h;exact⟨s,a,hf⟩
  |bad t=>rw[hf]at h;cases h
theorem atA{S:Type}{f:S->List Int->dE S}{deep:Int}{L:List Int->List (List Int)}{m m':S×Lp}{a:List Int}(h:qf f deep L m a=.stop m'):m'.2=.ret:=by
 unfold qf at h;generalize bK (jd f deep) (L a) (m.1,.ready)=r at h;cases r with
 |go q=>cases h
 |bad q=>cases h
 |stop q=>
  obtain⟨s,lp⟩:=q;cases lp<;>cases h;rfl
theorem atE{S:Type}{f:S->List Int->dE S}{deep:Int}{m m':S×Lp}{a:List Int}(h:jd f deep m a=.stop m'):m'.2=.ret\/m'.2=.exit 3:=by
 unfold jd at h;cases hf:f m.1 a with
 |go q=>
  rw[hf]at h;dsimp only at h;by_cases h0:deep=0
  ·rw[if_pos h0]at h;cases h;exact .inl rfl
  ·rw[if_neg h0]at h;by_cases h1:deep=1
   ·rw[if_pos h1]at h;cases h;exact .inr rfl
   ·rw[if_neg h1]at h;cases h
 |stop q=>rw[hf]at h;cases h;exact .inl rfl
 |bad q=>rw[hf]at h;cases h
theorem atD{S:Type}{f:S->List Int->dE S}{deep:Int}{m m':S×Lp}{a:List Int}(h:jd f deep m a=.go m'):m'.2=.ready:=by
 unfold jd at h;cases hf:f m.1 a with
 |go q=>
  rw[hf]at h;dsimp only at h;by_cases h0:deep=0
  ·rw[if_pos h0]at h;cases h
  ·rw[if_neg h0]at h;by_cases h1:deep=1
   ·rw[if_pos h1]at h;cases h
   ·rw[if_neg h1]at h;cases h;rfl
 |stop q=>rw[hf]at h;cases h
 |bad q=>rw[hf]at h;cases h
theorem adr{S α:Type}{F:S->α->dE S}{J:S->Prop}{A:α->Prop}(hi:∀s a s',J s->A a->F s a=.go s'->J s'):∀{l:List α}{s s':S},(∀a∈l,A a)->J s->bK F l s=.stop s'->∃t a,J t/\A a/\F t a=.stop s'
 |[],s,s',_,_,h=>by cases h
 |a::l,s,s',ha,hs,h=>by
  simp only[bK]at h;cases hf:F s a with
  |go t=>rw[hf]at h;exact adr hi (λb hb=>ha b (by simp[hb])) (hi s a t hs (ha a (by simp)) hf) h
  |stop t=>rw[hf]at h;cases h;exact⟨s,a,hs,ha a (by simp),hf⟩
  |bad t=>rw[hf]at h;cases h
theorem Fv{S:Type}{f:S->List Int->dE S}{deep:Int}{I:S->Prop}{A:List Int->Prop}(hi:∀s a s',I s->A a->f s a=.go s'->I s'){m m':S×Lp}{a:List Int}(hm:I m.1)(ha:A a)(h:jd f deep m a=.go m'\/jd f deep m a=.stop m'/\m'.2≠ .ret):I m'.1:=by
 unfold jd at h;cases hf:f m.1 a with
 |go q=>
  have hq:=hi _ _ _ hm ha hf;rw[hf]at h;dsimp only at h;by_cases h0:deep=0
  ·rw[if_pos h0]at h;rcases h with h|⟨h,h2⟩
   ·cases h
   ·cases h;exact hq
  ·rw[if_neg h0]at h;by_cases h1:deep=1
   ·rw[if_pos h1]at h;rcases h with h|⟨h,h2⟩
    ·cases h
    ·cases h;exact hq
   ·rw[if_neg h1]at h;rcases h with h|⟨h,h2⟩
    ·cases h;exact hq
    ·cases h
 |stop q=>
  rw[hf]at h;rcases h with h|⟨h,h2⟩
  ·cases h
  ·cases h;exact absurd rfl h2
 |bad q=>
  rw[hf]at h;rcases h with h|⟨h,h2⟩
  ·cases h
  ·cases h
theorem af9{S:Type}{f:S->List Int->dE S}{deep:Int}{I:S->Prop}{A:List Int->Prop}(hi:∀s a s',I s->A a->f s a=.go s'->I s'){l:List (List Int)}{σ:S}{m:S×Lp}(hl:∀a∈l,A a)(hs:I σ)(h:kY (bK (jd f deep) l (σ,.ready))=.go m):I m.1/\m.2=.ready:=by
 cases hr:bK (jd f deep) l (σ,.ready)with
 |go q=>
  rw[hr]at h;cases h;exact⟨BV (f:=jd f deep) (s':=q) (I:=λm:S×Lp=>I m.1) (A:=A) (λs a s' h1 h2 h3=>Fv hi h1 h2 (.inl h3)) l _ hl hs hr,rfl⟩
 |stop q=>
  obtain⟨t,a,h1,h2,h3⟩:=adr (J:=λm:S×Lp=>I m.1) (A:=A) (λs a s' h1 h2 h3=>Fv hi h1 h2 (.inl h3)) hl hs hr;rw[hr]at h;obtain⟨q1,q2⟩:=q;cases q2 with
  |ret=>cases h
  |ready=>cases h;exact⟨Fv (m':=(q1,.ready)) hi h1 h2 (.inr ⟨h3,by simp⟩),rfl⟩
  |exit i=>cases h;exact⟨Fv (m':=(q1,.exit i)) hi h1 h2 (.inr ⟨h3,by simp⟩),rfl⟩
  |busy=>cases h;exact⟨Fv (m':=(q1,.busy)) hi h1 h2 (.inr ⟨h3,by simp⟩),rfl⟩
 |bad q=>rw[hr]at h;cases h
end Go.Gg.Tk
namespace Go.Gg
open Go.Conc Go.Proofs Go.Gg.Tk
namespace Tk
def nF (l:List Nat)(i:Nat):List Nat:=l.take i++TO (3-i) 0
theorem ahj{l:List Nat}{i q:Nat}(h:l[i]?=some q)(hl:l.length<=3):(nF l i).set i q=nF l (i+1):=by
 have hi:=eW h;unfold nF;rw[Ue _ _ (by simp;omega),show i-(l.take i).length=0 by simp;omega,show 3-i=(3-(i+1))+1 by omega,Wy,T9,WC,h];simp
theorem QO{l:List Nat}{i:Nat}(hi:i<=l.length)(hl:l.length<=3):(nF l i).length=3:=by simp[nF];omega
theorem ahi{l:List Nat}:nF l l.length=l++TO (3-l.length) 0:=by simp[nF]
theorem acN:∀{qs:List Nat}{u:Nat}{t ns:List Nat},ns∈kR qs u t->ns.length=t.length+qs.length
 |[],u,t,ns,h=>by
  simp only[kR,S9]at h;subst h;rfl
 |q::qs,u,t,ns,h=>by
  simp only[kR,S4]at h;obtain⟨n,_,h⟩:=h;split at h
  ·cases h
  ·have:=acN h;simp at this⊢;omega
theorem Ox{x:ak}{h:List Int}{ns:List Nat}(hm:ns∈f_ x h):ns.length=x.pieces.length:=by
 have:=acN hm;simpa using this
def It (k:Nat)(a:List Int):List Nat:=((a.drop 4).take k).map Yi
theorem apf{h:List Int}{ns:List Nat}(h4:h.length=4):It ns.length (dX h ns)=ns:=by
 unfold It dX lG;rw[SC,VD,T7 (by omega),h4,UN,Vp,XJ,SC,TB (by simp),SW (by simp),WS]
 conv=>rhs;rw[<- List.map_id ns]
 exact VH λn _=>by simp
def vJ (x:ak)(h:List Int)(a:List Int):List (List Int):=(iD x h (It x.pieces.length a)).map (dC h (It x.pieces.length a))
theorem NJ{x:ak}{h:List Int}{ns:List Nat}(h4:h.length=4)(hn:ns.length=x.pieces.length):vJ x h (dX h ns)=(iD x h ns).map (dC h ns):=by
 unfold vJ;rw[<- hn,apf h4]
theorem atK{x:ak}{h:List Int}{deep:Int}(h4:h.length=4):iE x deep h=sE deep (((f_ x h).map (dX h)).map (vJ x h)):=by
 rw[WS];have:(f_ x h).map (vJ x h∘dX h)=(f_ x h).map λns=>(iD x h ns).map λos=>dC h ns os:=VH λns hm=>NJ h4 (Ox hm);rw[this];rfl
end Tk
section
variable {lv:Bool}
theorem KX{H:List aa}{k kp:AV->List aa->Prop}{x:ak}{h:List Int}{deep:Int}(hk:k (.fn (.func 91) [] [.op H.length 0,.op (H.length+1) 0,.op (H.length+2) 0]) (H++[.cells x.l 76,.cells (h.map iv) 83,.cells [iv deep] 3])):ba lv SA 66 H [x.av,.agg (h.map iv),iv deep] k kp:=by
 refine bD (rs:=[.tmp 6]) (nt:=8) Tryz.f66 λhH hA=> ?_;simp only[bp,SU,ak.av];refine aj ?_;refine ab ?_;simp only[seval,Uf,UH,Um,T1];refine aX ?_;exact ce hk
theorem K1{x:ak}{h:List Int}{deep:Int}{N ir ih id:Nat}{yv pv:AV}{S:Type}{f:S->List Int->dE S}{Gf:S->List aa}{I:S->Prop}{A:List Int->Prop}{σ:S}{k kp:AV->List aa->Prop}(hx:x.Ok)(hh:mM h)(hY:jQ lv SA yv f Gf N I A pv)(hr:∀σ L,(Gf σ++L)[ir]?=some (.cells x.l 76))(hi:∀σ L,(Gf σ++L)[ih]?=some (.cells (h.map iv) 83))(hd:∀σ L,(Gf σ++L)[id]?=some (.cells [iv deep] 3))
  (mw:∀n,Lt n pv) (hI:I σ) (qB:∀a,A a->a.length=11) (hA:∀ns∈f_ x h,∀a∈(iD x h ns).map (dC h ns),A a) (hk:gg Gf pv k kp [] (bK f (iE x deep h) σ)):ba lv SA 91 (Gf σ) [yv,.op ir 0,.op ih 0,.op id 0] k kp:=by
 refine Sw (rs:=[]) (nt:=44) F.f91 rfl rfl rfl (by simp) λhH uY=> ?_;simp only[bp,SU];have hN:=hY.len σ;have zd:=hx.db;have bU:x.l=[iv x.first,iv x.hours,iv x.am,c_ x.seen,aN x.pieces,aN x.aC]:=rfl;have nM:(h.map iv).length=4:=by rw[Ta,hh.len]
 refine nE ?_;refine ab ?_;simp only[seval,hY.parts];refine ag5 ?_;refine nE ?_;refine aj ?_;refine J4 ?_;refine nE ?_;refine ab ?_;simp only[seval,hr,bU,aN];refine J3 ?_;refine bP ?_;refine ek x.aC.length (λi:Nat=>[(14,iv i)]) (λi=>Gf σ++[.cells [yv] 132,.cells ((nF (x.aC.map (bZ h)) i).map λn=>wv n) 81]) (λi=>True) (λ_ _=>rfl) (by simp only[seval];simp[bk,Wk.refl]) rfl (λ_ _ _=>by simp) trivial (λbw bG i cw _ R hR=> ?_);refine aj ?_;refine aD ?_;refine⟨λhc=> ?_,λhc=> ?_⟩
 ·have br:i<x.aC.length:=by omega
  obtain⟨y,hy⟩:=bE br;have vG:(x.aC.map (bZ h))[i]?=some (bZ h y):=by rw[Tp,hy];rfl
  have b3:(0<=(i:Int)/\(i:Int)<3)=True:=by simp;omega
  have bH:SD.wrap ((i:Int)+1)=((i+1:Nat):Int):=by rw[bc _ (by omega)];rfl
  have cO:(nF (x.aC.map (bZ h)) i).length=3:=QO (by simp;omega) (by simpa using zd);have wS:((nF (x.aC.map (bZ h)) i).map λn=>wv n).length=3:=by rw[Ta,cO]
  refine aF ?_;refine ab ?_;simp only[seval,xG hy,iR br];refine ab ?_;simp only[seval,hi,nM];rw[SW (i:=4) (l:=h.map iv) (by rw[nM];exact SO _)];refine aK ((Gu (h:=h) (y:=y) hh ?_));(try simp only[seval,b3,wS]);refine⟨by omega,?_⟩;rw[Pg (g:=λn=>wv n) (show i<(nF (x.aC.map (bZ h)) i).length by omega),ahj vG (by simpa using zd)];refine ab ?_;simp only[seval,bH];exact hR _ ⟨br,trivial,BU (lC rfl rfl) (by simp only[seval];simp[bk,Wk.refl]) (abd (L:=[_]) bw (acT _ _)) (by simp[dZ])⟩
 have:i=x.aC.length:=by omega
 subst this;clear hc cw;refine bO ?_;have Bp:∃r,nF (x.aC.map (bZ h)) x.aC.length=x.aC.map (bZ h)++r:=⟨_,by
  have:=ahi (l:=x.aC.map (bZ h));simpa using this⟩
 have y_:(nF (x.aC.map (bZ h)) x.aC.length).length=3:=QO (by simp) (by simpa using zd);have M1:((nF (x.aC.map (bZ h)) x.aC.length).map λn=>wv n).length=3:=by rw[Ta,y_]
 generalize nF (x.aC.map (bZ h)) x.aC.length=qs at Bp y_ M1;refine nE ?_;(repeat apply eT);refine Qz ?_;simp only[seval];refine nE ?_;refine ab ?_;simp only[seval,hr,bU,hi,nM];rw[SW (i:=4) (l:=h.map iv) (by rw[nM];exact SO _)];refine aK ((aj5 (x:=x) (h:=h) ?_));(try simp only[seval]);refine ag1 ?_;refine ag4 (by rfl) λl fn T ag bo hT yF qG=> ?_;(try simp only[seval]);rw[hN]at hT⊢;have h4:=hh.len;have ak8:jQ lv SA (.fn (.yield l) [] []) (qf f deep (vJ x h)) (λm:S×Lp=>Gf m.1++[.cells [yv] 132,.cells (qs.map λn=>wv n) 81,.cells x.l 76,.cells (h.map iv) 83,.obj (.deferred (some [])),.loop l m.2.st m.2.pe fn T 44 #[28] ag bo (N+4)]) (N+6) (λm=>I m.1/\m.2=.ready) (λa=>∃ns∈f_ x h,a=dX h ns) pv:=by
  have g3:∀(σ:S)(L:List aa),(Gf σ++L)[N+1]?=L[1]?:=λσ L=>hY.get σ L 1;have g5:∀(σ:S)(L:List aa),(Gf σ++L)[N+5]?=L[5]?:=λσ L=>hY.get σ L 5;have s5:∀(σ:S)(L:List aa) y,(Gf σ++L).set (N+5) y=Gf σ++L.set 5 y:=λσ L y=>hY.set σ L 5 y;refine⟨λm a M k kp hm ha dI=> ?_,λm a m' hm ha he=> ?_,λm=>by simp[hY.len],λq m m' hz z fj=> ?_,rfl,rfl,rfl⟩
  ·obtain⟨σ,lp⟩:=m;obtain⟨LA,gZ⟩:=hm;replace LA:I σ:=LA;replace gZ:lp=.ready:=gZ;subst gZ;obtain⟨ns,iz,rfl⟩:=ha;have jJ:=Ox iz;have n5:(dX h ns).length=11:=(by simp[dX,h4,BP (k:=4) (l:=ns) (by have:=hx.ee;omega)]);have Bv:((dX h ns).map iv).length=11:=(by rw[Ta,n5]);obtain⟨Lo,lj⟩:∃Lo,Lo=aa.loop l .busy none fn T 44 #[28] ag bo (N+4):=⟨_,rfl⟩;obtain⟨P1,dz⟩:∃P1:S->List aa,∀σ,P1 σ=Gf σ++([.cells [yv] 132,.cells (qs.map λn=>wv n) 81,.cells x.l 76,.cells (h.map iv) 83,.obj (.deferred (some [])),Lo]++M):=⟨_,λ_=>rfl⟩;have eC:∀σ,(P1 σ).length=N+6+M.length:=λσ=>(by rw[dz];simp[hY.len];omega);have pg:∀(σ:S)(L:List aa)(i:Nat),i<6->(P1 σ++L)[N+i]?=[aa.cells [yv] 132,.cells (qs.map λn=>wv n) 81,.cells x.l 76,.cells (h.map iv) 83,.obj (.deferred (some [])),Lo][i]?:=λσ L i Mo=>by
    rw[dz,SC,hY.get,SC,S0 (by simpa using Mo)]
   have pr:∀(σ:S)(L:List aa),(P1 σ++L)[ir]?=some (.cells x.l 76):=λσ L=>(by rw[dz,SC];exact hr σ _);have pd:∀(σ:S)(L:List aa),(P1 σ++L)[id]?=some (.cells [iv deep] 3):=λσ L=>(by rw[dz,SC];exact hd σ _);have pb:∀(σ:S)(L:List aa)(i:Nat),(P1 σ++L)[N+6+M.length+i]?=L[i]?:=λσ L i=>(by rw[<- eC σ,aZ]);have xA:∀(σ:S)(L:List aa),(P1 σ++L)[N+6+M.length]?=L[0]?:=λσ L=>pb σ L 0;have pg1:∀(σ:S)(L:List aa),(P1 σ++L)[N+1]?=some (.cells (qs.map λn=>wv n) 81):=λσ L=>pg σ L 1 (by omega);have pg0:∀(σ:S)(L:List aa),(P1 σ++L)[N]?=some (.cells [yv] 132):=λσ L=>pg σ L 0 (by omega);have aaJ:∀(τ:S)(lp:Lp),bJ (Gf σ++(([aa.cells [yv] 132,.cells (qs.map λn=>wv n) 81,.cells x.l 76,.cells (h.map iv) 83,.obj (.deferred (some [])),.loop l .ready none fn T 44 #[28] ag bo (N+4)]:List aa)++M))->bJ (Gf τ++(([aa.cells [yv] 132,.cells (qs.map λn=>wv n) 81,.cells x.l 76,.cells (h.map iv) 83,.obj (.deferred (some [])),.loop l lp.st lp.pe fn T 44 #[28] ag bo (N+4)]:List aa)++M)):=λτ lp iu z hz=>by
    have hlen:(Gf τ++(([aa.cells [yv] 132,.cells (qs.map λn=>wv n) 81,.cells x.l 76,.cells (h.map iv) 83,.obj (.deferred (some [])),.loop l lp.st lp.pe fn T 44 #[28] ag bo (N+4)]:List aa)++M)).length=(Gf σ++(([aa.cells [yv] 132,.cells (qs.map λn=>wv n) 81,.cells x.l 76,.cells (h.map iv) 83,.obj (.deferred (some [])),.loop l .ready none fn T 44 #[28] ag bo (N+4)]:List aa)++M)).length:=(by simp[hY.len]);have hl:=iu (.loop l .ready none fn T 44 #[28] ag bo (N+4)) (by simp);rw[hlen];rcases SV.1 hz with h'|h'
    ·exact hY.ok _ σ τ (λw hw=>iu w (Ti _ hw)) z h'
    ·rcases SV.1 h' with h'|h'
     ·simp only[SK,SZ,or_false]at h';rcases h' with rfl|rfl|rfl|rfl|rfl|rfl
      ·exact iu _ (by simp)
      ·exact iu _ (by simp)
      ·exact iu _ (by simp)
      ·exact iu _ (by simp)
      ·exact iu _ (by simp)
      ·exact hl
     ·exact iu z (S5 _ (S5 _ h'))
   have K4:bJ (Gf σ++(([aa.cells [yv] 132,.cells (qs.map λn=>wv n) 81,.cells x.l 76,.cells (h.map iv) 83,.obj (.deferred (some [])),.loop l .ready none fn T 44 #[28] ag bo (N+4)]:List aa)++M))->∀(τ:S)(lp:Lp)(b':Bool)(TT:List (Nat×AV))(L:List aa),k (bv b') ((Gf τ++[.cells [yv] 132,.cells (qs.map λn=>wv n) 81,.cells x.l 76,.cells (h.map iv) 83,.obj (.deferred (some [])),.loop l lp.st lp.pe fn T 44 #[28] ag bo (N+4)])++M)->pu (N+5) (N+6+M.length) k lp.st lp.pe b' ⟨TT,P1 τ++L⟩:=λiu τ lp b' TT L dI=>by
    refine⟨l,.busy,none,fn,T,44,#[28],ag,bo,N+4,by show (P1 τ++L)[_]?=_;rw[pg τ _ 5 (by omega),lj];rfl,?_⟩;show cH (N+6+M.length) ((P1 τ++L).set _ _) _ k;rw[dz,SC,s5];rw[SC]at dI;exact jE (G:=L) (Wk.refl _) (by simp) (by simp[hY.len];omega) (aaJ τ lp iu) (.val _) dI
   have akl:bJ (Gf σ++(([aa.cells [yv] 132,.cells (qs.map λn=>wv n) 81,.cells x.l 76,.cells (h.map iv) 83,.obj (.deferred (some [])),.loop l .ready none fn T 44 #[28] ag bo (N+4)]:List aa)++M))->∀(τ:S)(L:List aa),kp pv ((Gf τ++[.cells [yv] 132,.cells (qs.map λn=>wv n) 81,.cells x.l 76,.cells (h.map iv) 83,.obj (.deferred (some [])),.loop l Lp.busy.st Lp.busy.pe fn T 44 #[28] ag bo (N+4)])++M)->cH (N+6+M.length) (P1 τ++L) pv kp:=λiu τ L dI=>by
    rw[SC]at dI;rw[dz,lj];exact jE (G:=L) (Wk.refl _) rfl (by simp[hY.len];omega) (aaJ τ .busy iu) (mw _) dI
   subst hT yF qG;rw[SC];refine wC (id:=N+5) (by rw[g5];rfl) rfl (by kernel_rfl) λoI Lv=> ?_;simp only[sR];have wX:TR 11 [iv 0,iv 0,iv 0,iv 0,iv 0,iv 0,iv 0,iv 0,iv 0,iv 0,iv 0]=[]:=rfl;refine ab ?_;simp only[seval,n5,wX];unfold uG;refine⟨none,fn,_,44,#[28],_,_,_,by rw[g5];rfl,?_⟩;dsimp only;rw[s5];simp only[UK,T9];rw[<- lj];have yA:(Gf σ).length+(M.length+1+1+1+1+1+1)=N+6+M.length:=(by rw[hY.len];omega);rw[yA];have yQ:∀z:aa,Gf σ++aa.cells [yv] 132::aa.cells (Vj (λn=>wv n) qs) 81::aa.cells x.l 76::aa.cells (Vj iv h) 83::aa.obj (awd (some []))::Lo::(M++[z])=P1 σ++[z]:=λz=>(by rw[dz];simp);rw[yQ];refine ab ?_;simp only[seval,pr,bU,xA,pg1,Bv,n5,M1,y_];rw[SW (i:=11) (l:=(dX h ns).map iv) (by rw[Bv];exact SO _),SW (i:=3) (l:=qs.map λn=>wv n) (by rw[M1];exact SO _)];refine aK ((aj6 (x:=x) (tc:=dX h ns) (qs:=qs) ?_));(try simp only[seval]);refine bP ?_;have oU:∀(σ:S)(a b c d:aa),(P1 σ++[a,b,c,d]).length=N+6+M.length+4:=λσ a b c d=>(by simp[eC]);refine F' (N+5) (by rfl) (by show (P1 σ++_)[N+5]?=_;rw[pg σ _ 5 (by omega),lj];rfl) λl2 eV T2 gF gG oL yG yI=> ?_;simp only[seval];rw[eC]at oL⊢;have BJ:∀(σ τ:S)(L L':List aa),L'.length=L.length->(∀q,(∀z∈L,eZ q z)->∀z∈L',eZ q z)->bJ (P1 σ++L)->bJ (P1 τ++L'):=λσ τ L L' hl hL hH z hz=>by
    have hlen:(P1 τ++L').length=(P1 σ++L).length:=(by simp[eC,hl]);rw[hlen];rcases SV.1 hz with h'|h'
    ·rw[dz]at h';rcases SV.1 h' with h'|h'
     ·exact hY.ok _ σ τ (λw hw=>hH w (Ti _ (by rw[dz];exact Ti _ hw))) z h'
     ·exact hH z (Ti _ (by rw[dz];exact S5 _ h'))
    ·exact hL _ (λw hw=>hH w (S5 _ hw)) z h'
   have yE:∀tc:List Int,jQ lv SA (.fn (.yield l2) [] []) (jd f deep) (λm:S×Lp=>P1 m.1++[.cells ((dX h ns).map iv) 86,.cells x.l 76,.cells (tc.map iv) 86,.cells (qs.map λn=>wv n) 81,.loop l2 m.2.st m.2.pe eV T2 44 #[33] gF gG (N+4)]) (N+6+M.length+5) (λm=>I m.1/\m.2=.ready) A pv:=λtc=>by
    refine⟨λm b M2 k2 zp hm hb lx=> ?_,λm b m' hm hb he=> ?_,λm=>by simp[eC],λq m m' hz z fj=> ?_,rfl,rfl,rfl⟩
    ·obtain⟨σ',lp⟩:=m;obtain⟨LB,gZ⟩:=hm;replace LB:I σ':=LB;replace gZ:lp=.ready:=gZ;subst gZ;have cO:b.length=11:=qB b hb;have wS:(b.map iv).length=11:=(by rw[Ta,cO]);obtain⟨qj,tG⟩:∃Lo,Lo=aa.loop l2 .busy none eV T2 44 #[33] gF gG (N+4):=⟨_,rfl⟩;obtain⟨Q1,gn⟩:∃Q1:S->List aa,∀σ,Q1 σ=P1 σ++([.cells ((dX h ns).map iv) 86,.cells x.l 76,.cells (tc.map iv) 86,.cells (qs.map λn=>wv n) 81,qj]++M2):=⟨_,λ_=>rfl⟩;obtain⟨C,hC⟩:∃C,C=N+6+M.length+5+M2.length:=⟨_,rfl⟩;have LJ:∀σ,(Q1 σ).length=C:=λσ=>(by rw[gn,hC];simp[eC];omega);have mb:∀(σ:S)(L:List aa),(P1 σ++L)[N+6+M.length+4]?=L[4]?:=λσ L=>pb σ L 4;have qe:∀(σ:S)(L:List aa)(y:aa),(P1 σ++L).set (N+6+M.length+4) y=P1 σ++L.set 4 y:=λσ L y=>(by rw[<- eC σ,dH]);have qN:∀(σ:S)(L:List aa),(Q1 σ++L)[N]?=some (.cells [yv] 132):=λσ L=>(by rw[gn,SC];exact pg0 σ _);have qd:∀(σ:S)(L:List aa),(Q1 σ++L)[id]?=some (.cells [iv deep] 3):=λσ L=>(by rw[gn,SC];exact pd σ _);have q4:∀(σ:S)(L:List aa),(Q1 σ++L)[N+6+M.length+4]?=some qj:=λσ L=>(by rw[gn,SC,mb];rfl);have qc:∀(σ:S)(L:List aa),(Q1 σ++L)[C]?=L[0]?:=λσ L=>(by rw[<- LJ σ];exact aZ _ L 0);have O5:∀(σ:S)(L:List aa)(y:aa),(Q1 σ++L).set (N+6+M.length+4) y=(P1 σ++([.cells ((dX h ns).map iv) 86,.cells x.l 76,.cells (tc.map iv) 86,.cells (qs.map λn=>wv n) 81,y]++M2))++L:=λσ L y=>(by rw[gn,SC,qe];simp);obtain⟨Mz,GM⟩:∃Mz:List aa,∀σ,Q1 σ++[.cells (b.map iv) 86]=Gf σ++Mz:=⟨_,λσ=>by rw[gn,dz,SC,SC]⟩;have fI:∀(τ:S)(lp:Lp),bJ (P1 σ'++([.cells ((dX h ns).map iv) 86,.cells x.l 76,.cells (tc.map iv) 86,.cells (qs.map λn=>wv n) 81,.loop l2 .ready none eV T2 44 #[33] gF gG (N+4)]++M2))->bJ (P1 τ++([.cells ((dX h ns).map iv) 86,.cells x.l 76,.cells (tc.map iv) 86,.cells (qs.map λn=>wv n) 81,.loop l2 lp.st lp.pe eV T2 44 #[33] gF gG (N+4)]++M2)):=λτ lp iu=>BJ σ' τ _ _ (by simp) (λq hz z fj=>by
      have hl:=hz (.loop l2 .ready none eV T2 44 #[33] gF gG (N+4)) (by simp);rcases SV.1 fj with h'|h'
      ·simp only[SK,SZ,or_false]at h';rcases h' with rfl|rfl|rfl|rfl|rfl
       ·exact hz _ (by simp)
       ·exact hz _ (by simp)
       ·exact hz _ (by simp)
       ·exact hz _ (by simp)
       ·exact hl
      ·exact hz _ (S5 _ h')) iu
     have gw:cW (λm:S×Lp=>P1 m.1++[.cells ((dX h ns).map iv) 86,.cells x.l 76,.cells (tc.map iv) 86,.cells (qs.map λn=>wv n) 81,.loop l2 m.2.st m.2.pe eV T2 44 #[33] gF gG (N+4)]) pv k2 zp M2 (jd f deep (σ',.ready) b):=lx;have Md:∀z:aa,P1 σ'++(aa.cells (Vj iv (dX h ns)) 86::aa.cells x.l 76::aa.cells (Vj iv tc) 86::aa.cells (Vj (λn=>wv n) qs) 81::qj::(M2++[z]))=Q1 σ'++[z]:=λz=>(by rw[gn];simp);have Gx:bJ (P1 σ'++([.cells ((dX h ns).map iv) 86,.cells x.l 76,.cells (tc.map iv) 86,.cells (qs.map λn=>wv n) 81,.loop l2 .ready none eV T2 44 #[33] gF gG (N+4)]++M2))->∀(τ:S)(lp:Lp)(b':Bool)(TT:List (Nat×AV)),k2 (bv b') ((P1 τ++[.cells ((dX h ns).map iv) 86,.cells x.l 76,.cells (tc.map iv) 86,.cells (qs.map λn=>wv n) 81,.loop l2 lp.st lp.pe eV T2 44 #[33] gF gG (N+4)])++M2)->pu (N+6+M.length+4) C k2 lp.st lp.pe b' ⟨TT,Gf τ++Mz⟩:=λiu τ lp b' TT dI=>by
      refine⟨l2,.busy,none,eV,T2,44,#[33],gF,gG,N+4,by show (Gf τ++Mz)[_]?=_;rw[<- GM,q4,tG],?_⟩;show cH C ((Gf τ++Mz).set _ _) _ k2;rw[<- GM,O5];rw[SC]at dI;exact jE (G:=[.cells (b.map iv) 86]) (Wk.refl _) rfl (by rw[hC];simp[eC];omega) (fI τ lp iu) (.val _) dI
     have akk:bJ (P1 σ'++([.cells ((dX h ns).map iv) 86,.cells x.l 76,.cells (tc.map iv) 86,.cells (qs.map λn=>wv n) 81,.loop l2 .ready none eV T2 44 #[33] gF gG (N+4)]++M2))->∀τ:S,zp pv ((P1 τ++[.cells ((dX h ns).map iv) 86,.cells x.l 76,.cells (tc.map iv) 86,.cells (qs.map λn=>wv n) 81,.loop l2 Lp.busy.st Lp.busy.pe eV T2 44 #[33] gF gG (N+4)])++M2)->cH C (Gf τ++Mz) pv zp:=λiu τ dI=>by
      rw[<- GM,gn,tG];rw[SC]at dI;exact jE (G:=[.cells (b.map iv) 86]) (Wk.refl _) rfl (by rw[hC];simp[eC];omega) (fI τ .busy iu) (mw _) dI
     subst oL yG yI;rw[SC];refine wC (id:=N+6+M.length+4) (by rw[mb];rfl) rfl (by kernel_rfl) λrQ Lw=> ?_;simp only[sR];refine ab ?_;simp only[seval,cO,wX];unfold uG;refine⟨none,eV,_,44,#[33],_,_,_,by rw[mb];rfl,?_⟩;dsimp only;rw[qe];simp only[UK,T9];rw[<- tG];have Dk:(P1 σ').length+(M2.length+1+1+1+1+1)=C:=(by rw[eC,hC];omega);rw[Dk,Md];refine ab ?_;simp only[seval,qN,qc,cO,wS];rw[SW (i:=11) (l:=b.map iv) (by rw[wS];exact SO _),GM];refine ye (hY.call σ' b Mz _ _ LB hb ?_);unfold jd at gw;rw[show f (σ',Lp.ready).1 b=f σ' b from rfl]at gw;cases hf:f σ' b with
     |go τ=>
      rw[hf]at gw;dsimp only at gw;simp only[cW];(try simp only[seval,hd]);refine aD ?_;refine⟨λh0=> ?_,λh0=> ?_⟩
      ·replace h0:deep=0:=(by simpa using h0);rw[if_pos h0]at gw;simp only[cW]at gw;refine aX ?_;exact Gx rQ τ .ret false _ gw
      ·replace h0:¬deep=0:=(by simpa using h0);rw[if_neg h0]at gw;refine aF ?_;refine ab ?_;simp only[seval,hd];refine aD ?_;refine⟨λh1=> ?_,λh1=> ?_⟩
       ·replace h1:deep=1:=(by simpa using h1);rw[if_pos h1]at gw;simp only[cW]at gw;refine bO ?_;exact Gx rQ τ (.exit 3) false _ gw
       ·replace h1:¬deep=1:=(by simpa using h1);rw[if_neg h1]at gw;simp only[cW]at gw;refine aF ?_;exact Gx rQ τ .ready true _ gw
     |stop τ=>
      rw[hf]at gw;dsimp only at gw;simp only[cW]at gw⊢;(try simp only[seval]);refine aD ?_;refine aX ?_;exact Gx rQ τ .ret false _ gw
     |bad τ=>
      rw[hf]at gw;dsimp only at gw;simp only[cW]at gw⊢;exact akk rQ τ gw
    ·obtain⟨σ',lp⟩:=m;obtain⟨τ,EJ⟩:=m';unfold jd at he;have hi:=(hY.inv σ' b τ hm.1 hb);cases hf:f σ' b with
     |go τ'=>
      rw[show f (σ',lp).1 b=f σ' b from rfl,hf]at he;dsimp only at he;by_cases h0:deep=0
      ·rw[if_pos h0]at he;cases he
      ·rw[if_neg h0]at he;by_cases h1:deep=1
       ·rw[if_pos h1]at he;cases he
       ·rw[if_neg h1]at he;cases he;exact⟨hi hf,rfl⟩
     |stop τ'=>rw[show f (σ',lp).1 b=f σ' b from rfl,hf]at he;cases he
     |bad τ'=>rw[show f (σ',lp).1 b=f σ' b from rfl,hf]at he;cases he
    ·rcases SV.1 fj with h'|h'
     ·rw[dz]at h';rcases SV.1 h' with h'|h'
      ·exact hY.ok q m.1 m'.1 (λw hw=>hz w (Ti _ (by rw[dz];exact Ti _ hw))) z h'
      ·exact hz z (Ti _ (by rw[dz];exact S5 _ h'))
     ·have hl:=hz _ (S5 _ (S6 (i:=4) rfl));simp only[SK,SZ,or_false]at h';rcases h' with rfl|rfl|rfl|rfl|rfl
      ·exact hz _ (S5 _ (by simp))
      ·exact hz _ (S5 _ (by simp))
      ·exact hz _ (S5 _ (by simp))
      ·exact hz _ (S5 _ (by simp))
      ·exact hl
   have e1:qf f deep (vJ x h) (σ,.ready) (dX h ns)=kY (bK (jd f deep) ((iD x h ns).map (dC h ns)) (σ,.ready)):=(by unfold qf;rw[NJ h4 jJ]);rw[e1]at dI;refine dc (ajc (x:=x) (h:=h) (ns:=ns) (qs:=qs) (N:=N+6+M.length+5) (ir:=N+6+M.length+1) (it:=N+6+M.length+2) (is:=N+6+M.length+3) (tc:=dX h ns) (σ:=(σ,Lp.ready)) hx h4 jJ yE (λtc m L=> ?_) (λtc m L=> ?_) (λtc ez m L=> ?_) (λtc m L=> ?_) Bp y_ (λq tc ez m hz z fj=> ?_) mw rfl ⟨LA,rfl⟩ (hA ns iz) (λez avx=> ?_))
   ·rw[SC];exact pb _ _ 1
   ·rw[SC];exact pb _ _ 2
   ·rw[SC,<- eC m.1,dH,SC];rfl
   ·rw[SC];exact pb _ _ 3
   ·rcases SV.1 fj with h'|h'
    ·exact hz z (Ti _ h')
    ·simp only[SK,SZ,or_false]at h';rcases h' with rfl|rfl|rfl|rfl|rfl
     ·exact hz _ (by simp)
     ·exact hz _ (by simp)
     ·exact apw _ _ _
     ·exact hz _ (by simp)
     ·exact hz _ (by simp)
   have mb:∀(σ:S)(L:List aa),(P1 σ++L)[N+6+M.length+4]?=L[4]?:=λσ L=>pb σ L 4;have qe:∀(σ:S)(L:List aa)(y:aa),(P1 σ++L).set (N+6+M.length+4) y=P1 σ++L.set 4 y:=λσ L y=>(by rw[<- eC σ,dH]);cases cw:bK (jd f deep) ((iD x h ns).map (dC h ns)) (σ,.ready)with
   |go m=>
    obtain⟨τ,lp⟩:=m;have gZ:lp=.ready:=BV (I:=λm:S×Lp=>m.2=.ready) (A:=λ_=>True) (λs a s' _ _ e=>atD e) _ _ _ (λ_ _=>trivial) rfl cw;subst gZ;rw[cw]at dI;simp only[kY,cW]at dI;simp only[gg,SN];refine⟨.ready,none,_,_,_,_,_,_,_,by rw[mb];rfl,by decide,?_⟩;rw[qe,IM];(try simp only[seval]);exact K4 oI τ .ready true _ _ dI
   |stop m=>
    obtain⟨τ,lp⟩:=m;have gZ:lp=.ret\/lp=.exit 3:=by
     obtain⟨_,_,q⟩:=Pa cw;exact atE q
    rw[cw]at dI;rcases gZ with rfl|rfl
    ·simp only[kY,cW]at dI;simp only[gg,SN];refine⟨.done,some .ret,_,_,_,_,_,_,_,by rw[mb];rfl,by decide,?_⟩;rw[qe,aqe];(try simp only[seval]);exact K4 oI τ .ret false _ _ dI
    ·simp only[kY,cW]at dI;simp only[gg,SN];refine⟨.done,some (.exit 3),_,_,_,_,_,_,_,by rw[mb];rfl,by decide,?_⟩;rw[qe,aqd];(try simp only[seval]);exact K4 oI τ .ready true _ _ dI
   |bad m=>
    obtain⟨τ,lp⟩:=m;rw[cw]at dI;simp only[kY,cW]at dI;simp only[gg,SN];exact akl oI τ _ dI
  ·obtain⟨σ',lp⟩:=m;obtain⟨τ,EJ⟩:=m';obtain⟨ns,iz,rfl⟩:=ha;have e1:qf f deep (vJ x h) (σ',lp) (dX h ns)=kY (bK (jd f deep) ((iD x h ns).map (dC h ns)) (σ',.ready)):=(by unfold qf;rw[NJ h4 (Ox iz)]);rw[e1]at he;exact af9 hY.inv (hA ns iz) hm.1 he
  ·rcases SV.1 fj with h'|h'
   ·exact hY.ok q m.1 m'.1 (λw hw=>hz w (Ti _ hw)) z h'
   ·have hl:=hz _ (S5 _ (S6 (i:=5) rfl));simp only[SK,SZ,or_false]at h';rcases h' with rfl|rfl|rfl|rfl|rfl|rfl
    ·exact hz _ (S5 _ (by simp))
    ·exact hz _ (S5 _ (by simp))
    ·exact hz _ (S5 _ (by simp))
    ·exact hz _ (S5 _ (by simp))
    ·exact hz _ (S5 _ (by simp))
    ·exact hl
 obtain⟨dS,vA⟩:=aeJ (f:=f) (deep:=deep) (L:=vJ x h) ((f_ x h).map (dX h)) σ;rw[<- atK h4]at dS;have g4:∀(σ:S)(L:List aa),(Gf σ++L)[N+4]?=L[4]?:=λσ L=>hY.get σ L 4;have g5:∀(σ:S)(L:List aa),(Gf σ++L)[N+4+1]?=L[5]?:=λσ L=>hY.get σ L 5;have s4:∀(σ:S)(L:List aa) y,(Gf σ++L).set (N+4) y=Gf σ++L.set 4 y:=λσ L y=>hY.set σ L 4 y;have s5:∀(σ:S)(L:List aa) y,(Gf σ++L).set (N+4+1) y=Gf σ++L.set 5 y:=λσ L y=>hY.set σ L 5 y;have sw:∀n,Lt n (.aQ []):=λn=>by simp[jM]
 refine dc (aja (x:=x) (h:=h) (N:=N+6) (ir:=N+2) (ih:=N+3) (σ:=(σ,Lp.ready)) hx hh ak8 (λm L=> ?_) (λm L=> ?_) mw ⟨hI,rfl⟩ (λa ha=> ?_) ?_)
 ·rw[SC,hY.get m.1 _ 2];rfl
 ·rw[SC,hY.get m.1 _ 3];rfl
 ·obtain⟨ns,h1,rfl⟩:=Tf.1 ha;exact⟨ns,h1,rfl⟩
 cases bQ:bK (qf f deep (vJ x h)) ((f_ x h).map (dX h)) (σ,.ready)with
 |go m=>
  obtain⟨σ',lp⟩:=m;have gZ:lp=.ready:=vA _ bQ;subst gZ;rw[bQ]at dS;have aJ:=O8 (r':=.go σ') dS.symm hk;simp only[gg,SN]at aJ⊢;refine⟨.ready,none,_,_,_,_,_,_,_,by rw[g5];rfl,by decide,?_⟩;rw[s5];simp only[UK,T9];rw[IL];(try simp only[seval]);rw[AN (by rw[g4];rfl),AP,s4];(try simp only[seval]);rw[<- hN];exact vY hY hH sw aJ
 |stop m=>
  obtain⟨σ',lp⟩:=m;have gZ:lp=.ret:=by
   obtain⟨_,_,q⟩:=Pa bQ;exact atA q
  subst gZ;rw[bQ]at dS;have aJ:=O8 (r':=.stop σ') dS.symm hk;simp only[gg,SN]at aJ⊢;refine⟨.done,some .ret,_,_,_,_,_,_,_,by rw[g5];rfl,by decide,?_⟩;rw[s5];simp only[UK,T9];rw[aqc];(try simp only[seval]);rw[AN (by rw[g4];rfl),AP,s4];(try simp only[seval]);rw[<- hN];exact vY hY hH sw aJ
 |bad m=>
  obtain⟨σ',lp⟩:=m;rw[bQ]at dS;have aJ:=O8 (r':=.bad σ') dS.symm hk;simp only[gg,SN]at aJ⊢;rw[AN (by rw[g4];rfl),AP,s4];rw[BL,<- hN];exact vY hY hH mw aJ
end
open Go.Conc Go.Proofs Go.Gg.Tk
namespace Tk
def mT (x y:Int):Int:=if x<y then -1 else if y<x then 1 else 0
def oF:List Int->List Int->Int
 |a::l,b::m=>if mT a b≠0 then mT a b else oF l m
 |[],[]=>0
 |[],_::_=> -1
 |_::_,[]=>1
def te (a b:List Int):Bool:=if a.take 4=b.take 4 then(if oF ((a.drop 4).take 4) ((b.drop 4).take 4)≠0 then decide (oF ((a.drop 4).take 4) ((b.drop 4).take 4)<0)else decide (oF (a.drop 8) (b.drop 8)<0))else decide (oF (a.take 4) (b.take 4)<0)
end Tk
theorem Gq{ca pa ra:List AV}{xs:List Int}{o i:Nat}{x:Int}(hc:ca=pa++(xs.map iv++ra))(ho:pa.length=o)(h:xs[i]?=some x):ca.drop (o+i)=iv x::((xs.drop (i+1)).map iv++ra):=by
 subst hc ho;rw[VD,T7 (by omega),UN,show pa.length+i-pa.length=i by omega,VD,lc h,show i-(xs.map iv).length=0 by have:=eW h;simp;omega,XJ];rfl
section
variable {lv:Bool}{H:List aa}{k kp:AV->List aa->Prop}
theorem R6{x:Int}(hk:k (bv false) H):ba lv SA 143 H [iv x] k kp:=by
 refine bD (rs:=[.tmp 2]) (nt:=6) Tryz.f143 λhH hA=> ?_;simp only[bp,SU];refine aj ?_;refine ab ?_;simp only[seval,bne_self_eq_false];refine aX ?_;refine ce ?_;simpa using hk
theorem ajf{x y:Int}(hk:k (iv (mT x y)) H):ba lv SA 142 H [iv x,iv y] k kp:=by
 refine bD (rs:=[.tmp 4]) (nt:=20) Tryz.f142 λhH hA=> ?_;simp only[bp,SU];refine aj ?_;refine aj ?_;refine aK ((R6 ?_));(try simp only[seval]);refine aj ?_;refine aK ((R6 ?_));(try simp only[seval]);refine aj ?_;refine aD ?_;refine aF ?_;refine aj ?_;refine aD ?_;refine aF ?_;refine aj ?_;refine aD ?_;refine⟨λh=> ?_,λh=> ?_⟩
 ·refine aj ?_;refine aX ?_;rw[mT,if_pos h]at hk;exact ce hk
 ·refine aF ?_;refine aj ?_;refine aD ?_;refine⟨λh2=> ?_,λh2=> ?_⟩
  ·refine aj ?_;refine aX ?_;rw[mT,if_neg h,if_pos h2]at hk;exact ce hk
  ·refine aF ?_;refine aj ?_;refine aX ?_;rw[mT,if_neg h,if_neg h2]at hk;exact ce hk
theorem KQ{xs ys:List Int}{ia oa ib ob ta tb:Nat}{ca cb pa ra pb rb:List AV}(ha:H[ia]?=some (.cells ca ta))(hb:H[ib]?=some (.cells cb tb))(hca:ca=pa++(xs.map iv++ra))(MW:pa.length=oa)(hcb:cb=pb++(ys.map iv++rb))(hpb:pb.length=ob)(hl:ys.length=xs.length)(h4:xs.length<=4)(hk:k (iv (oF xs ys)) H):
  ba lv SA 138 H [.bA ia oa xs.length xs.length,.bA ib ob ys.length ys.length] k kp:=by
 refine bD (rs:=[.tmp 4]) (nt:=36) Tryz.f138 λhH hA=> ?_;simp only[bp,SU];refine aj ?_;refine aj ?_;refine bP ?_;refine qu xs.length (λi:Nat=>[(11,iv i)]) (λ_=>H) (λi=>oF xs ys=oF (xs.drop i) (ys.drop i)) rfl (λbw bG i cw hI R hR=> ?_);refine aj ?_;refine aD ?_;refine⟨λh=> ?_,λh=> ?_⟩
 ·have br:i<xs.length:=by omega
  obtain⟨x,hx⟩:=bE br;obtain⟨y,hy⟩:=bE (xs:=ys) (i:=i) (by omega);have bH:SD.wrap ((i:Int)+1)=((i+1:Nat):Int):=by rw[bc _ (by omega)];rfl
  have lz:oF xs ys=if mT x y≠0 then mT x y else oF (xs.drop (i+1)) (ys.drop (i+1)):=by rw[hI,wG hx,wG hy,oF]
  refine aF ?_;refine ab ?_;simp only[seval,ha,iR br,Gq hca MW hx];refine aj ?_;refine aD ?_;refine⟨λh2=>by exfalso;omega,λh2=> ?_⟩;refine aF ?_;refine ab ?_;simp only[seval,hb,iR (show i<ys.length by omega),Gq hcb hpb hy];refine aj ?_;refine aK ((ajf ?_));(try simp only[seval]);refine aj ?_;refine aD ?_;refine⟨λh3=> ?_,λh3=> ?_⟩
  ·refine aj ?_;refine aX ?_;rw[lz,if_pos (by simpa using h3)]at hk;exact ce hk
  ·refine aF ?_;refine ab ?_;simp only[seval,bH];refine hR _ ⟨br,?_,bX⟩;rw[lz,if_neg (by simpa using h3)]
 ·have dB:i=xs.length:=by omega
  subst dB;refine bO ?_;refine ab ?_;simp only[seval,hl];refine aD ?_;refine⟨λh2=>by exfalso;omega,λh2=> ?_⟩;refine aF ?_;refine aj ?_;refine aX ?_;rw[hI,List.drop_length,T7 (WL hl),oF]at hk;exact ce hk
theorem F.Fy:SA.underlying 83=some (.array 4 3):=by kernel_rfl
theorem F.u3:SA.underlying 3=some (.int .i64):=by kernel_rfl
theorem afU{P:SI}{t e:TypeId}{k0:T8}{n:Nat}{xs ys:List Int}(ht:P.underlying t=some (.array n e))(he:P.underlying e=some (.int k0))(hs:(P.info? e).map (·.size)=some 1)(hg:P.eqGuardType P.depth t=false)(hx:xs.length=n)(hy:ys.length=n)(k:AV->Prop):
  dK P .neq t (.agg (xs.map iv)) (.agg (ys.map iv)) k=k (bv (!(xs==ys))):=by
 obtain⟨i,hi,hs⟩:=Ts.1 hs;have El:=aen ht he hi hs hx hy;have e:dK P .neq t (.agg (xs.map iv)) (.agg (ys.map iv)) k=((Wz=.eql\/Wz=.neq)/\ao (AV.raw (.agg (xs.map iv))) λX=>ao (AV.raw (.agg (ys.map iv))) λY=>AC X Y=true/\P.eqGuardType P.depth t=false/\∃e,cM P (Xx t X Y) e/\k (.val (.bool (if Wz== .neq then !e else e)))):=rfl;rw[e,zI,zI,BL,BL];apply propext;constructor
 ·rintro⟨_,_,_,b,h1,h2⟩
  rw[El.uniq h1];exact h2
 ·intro h;exact⟨.inr rfl,rfl,hg,_,El,h⟩
theorem F.i3s:(SA.info? 3).map (·.size)=some 1:=by kernel_rfl
theorem F.g83:SA.eqGuardType SA.depth 83=false:=by kernel_rfl
theorem aje{a b:List Int}(ha:a.length=11)(hb:b.length=11)(hk:k (bv (te a b)) H):ba lv SA 128 H [.agg (a.map iv),.agg (b.map iv)] k kp:=by
 refine bD (rs:=[.tmp 4]) (nt:=32) Tryz.f128 λhH hA=> ?_;simp only[bp,SU];have ham:(a.map iv).length=11:=by rw[Ta,ha]
 have wS:(b.map iv).length=11:=by rw[Ta,hb]
 have ea:a.map iv=(a.take 4).map iv++(((a.drop 4).take 4).map iv++(a.drop 8).map iv):=by
  rw[<- To,<- To];congr 1;have:(a.drop 4).take 4++a.drop 8=a.drop 4:=by
   conv=>rhs;rw[<- Vu 4 (a.drop 4)]
   rw[ar_]
  rw[this,Vu]
 have eb:b.map iv=(b.take 4).map iv++(((b.drop 4).take 4).map iv++(b.drop 8).map iv):=by
  rw[<- To,<- To];congr 1;have:(b.drop 4).take 4++b.drop 8=b.drop 4:=by
   conv=>rhs;rw[<- Vu 4 (b.drop 4)]
   rw[ar_]
  rw[this,Vu]
 refine aj ?_;refine ab ?_;simp only[seval,ham,wS,ha,hb];have HJ:(a.take 4).length=4:=by simp[ha]
 have Nj:(b.take 4).length=4:=by simp[hb]
 have Nh:((a.drop 4).take 4).length=4:=by simp[ha]
 have abt:((b.drop 4).take 4).length=4:=by simp[hb]
 have Ni:(a.drop 8).length=3:=by simp[ha]
 have abu:(b.drop 8).length=3:=by simp[hb]
 rw[<- Wa,<- Wa,afU F.Fy F.u3 F.i3s F.g83 HJ Nj];refine aD ?_;refine⟨λh=> ?_,λh=> ?_⟩
 ·refine ej 4 ?_;simp only[seval];have c1:=λk kp=>KQ (lv:=lv) (k:=k) (kp:=kp) (H:=H++[.cells (a.map iv) 86,.cells (b.map iv) 86]) (xs:=a.take 4) (ys:=b.take 4) (ia:=H.length) (ib:=H.length+1) (oa:=0) (ob:=0) (pa:=[]) (pb:=[]) (aZ H _ 0) (aZ H _ 1) ea rfl eb rfl (by rw[HJ,Nj]) (by rw[HJ];exact SO _);simp only[HJ,Nj]at c1;refine aK ((c1 _ _ ?_));(try simp only[seval]);refine aX ?_;rw[te,if_neg (by simpa using h)]at hk;exact ji hH hk
 ·have h:=(by simpa using h:a.take 4=b.take 4);rw[te,if_pos h]at hk;refine aF ?_;refine ej 4 ?_;simp only[seval];have c2:=λk kp=>KQ (lv:=lv) (k:=k) (kp:=kp) (H:=H++[.cells (a.map iv) 86,.cells (b.map iv) 86]) (xs:=(a.drop 4).take 4) (ys:=(b.drop 4).take 4) (ia:=H.length) (ib:=H.length+1) (oa:=4) (ob:=4) (pa:=(a.take 4).map iv) (pb:=(b.take 4).map iv) (aZ H _ 0) (aZ H _ 1) ea (by simp[ha]) eb (by simp[hb]) (by rw[Nh,abt]) (by rw[Nh];exact SO _);simp only[Nh,abt]at c2;refine aK ((c2 _ _ ?_));(try simp only[seval]);refine aj ?_;refine aD ?_;refine⟨λh2=> ?_,λh2=> ?_⟩
  ·refine aj ?_;refine aX ?_;rw[if_pos (by simpa using h2)]at hk;exact ji hH hk
  ·refine aF ?_;rw[if_neg (by simpa using h2)]at hk;refine ej 4 ?_;simp only[seval];have c3:=λk kp=>KQ (lv:=lv) (k:=k) (kp:=kp) (H:=H++[.cells (a.map iv) 86,.cells (b.map iv) 86]) (xs:=a.drop 8) (ys:=b.drop 8) (ia:=H.length) (ib:=H.length+1) (oa:=8) (ob:=8) (pa:=(a.take 4).map iv++((a.drop 4).take 4).map iv) (pb:=(b.take 4).map iv++((b.drop 4).take 4).map iv) (ra:=[]) (rb:=[]) (aZ H _ 0) (aZ H _ 1) (by rw[ea];simp) (by simp[ha]) (by rw[eb];simp) (by simp[hb]) (by rw[Ni,abu]) (by rw[Ni];omega);simp only[Ni,abu]at c3;refine aK ((c3 _ _ ?_));(try simp only[seval]);refine aX ?_;exact ji hH hk
end
open Go.Conc Go.Proofs Go.Gg.Tk
theorem Ip{α:Type}{g:α->AV}{ca pa ra:List AV}{xs:List α}{o i:Nat}{x:α}(hc:ca=pa++(xs.map g++ra))(ho:pa.length=o)(h:xs[i]?=some x):ca.drop (o+i)=g x::((xs.drop (i+1)).map g++ra):=by
 subst hc ho;rw[VD,T7 (by omega),UN,show pa.length+i-pa.length=i by omega,VD,AB h,show i-(xs.map g).length=0 by have:=eW h;simp;omega,XJ];rfl
theorem Iq{α:Type}{g:α->AV}{ca pa ra:List AV}{xs:List α}{o i:Nat}{y:α}(hc:ca=pa++(xs.map g++ra))(ho:pa.length=o)(h:i<xs.length):ca.take (o+i)++[g y]++ca.drop (o+i+1)=pa++((xs.set i y).map g++ra):=by
 subst hc ho;have h1:(pa++(xs.map g++ra)).take (pa.length+i)=pa++(xs.map g).take i:=by
  rw[List.take_append,SW (by omega),show pa.length+i-pa.length=i by omega,TB (by simp;omega)]
 have h2:(pa++(xs.map g++ra)).drop (pa.length+i+1)=(xs.map g).drop (i+1)++ra:=by
  rw[VD,T7 (by omega),UN,show pa.length+i+1-pa.length=i+1 by omega,Wt (by simp;omega)]
 rw[h1,h2,<- Pg h];simp[SC]
namespace Tk
def Kn.l (F:Kn)(mp:Nat):List AV:=bv F.has:: .mp mp::(F.az.map (λn=>wv n)++(F.hours.map (λn=>wv n)++(F.less.map (λn=>wv n)++(F.aW.map (λn=>wv n)++F.first.map iv))))
structure bR (F:Kn):Prop where
 az:F.az.length=4
 hours:F.hours.length=4
 less:F.less.length=4
 aW:F.aW.length=3
 first:F.first.length=11
 mF:∀n∈F.az,n<65536
 mV:∀n∈F.hours,n<65536
 nb:∀n∈F.less,n<65536
 l_:∀n∈F.aW,n<65536
 h4:∀h∈F.aL,h.length=4
theorem Kn.len{F:Kn}(h:bR F)(mp:Nat):(F.l mp).length=28:=by simp[Kn.l,h.az,h.hours,h.less,h.aW,h.first]
theorem Kn.Iv{F:Kn}{mp p n:Nat}(h:F.az[p]?=some n):(F.l mp).drop (2+p)=wv n::((F.az.drop (p+1)).map (λn=>wv n)++(F.hours.map (λn=>wv n)++(F.less.map (λn=>wv n)++(F.aW.map (λn=>wv n)++F.first.map iv)))):=Ip (pa:=[bv F.has,.mp mp]) rfl rfl h
theorem Kn.acP{F:Kn}{mp p v:Nat}(h:p<F.az.length):(F.l mp).take (2+p)++[wv v]++(F.l mp).drop (2+p+1)=({F with az:=F.az.set p v}:Kn).l mp:=Iq (g:=λn=>wv n) (pa:=[bv F.has,.mp mp]) rfl rfl h
theorem Kn.MU{F:Kn}(k:bR F){mp p n:Nat}(h:F.hours[p]?=some n):(F.l mp).drop (6+p)=wv n::((F.hours.drop (p+1)).map (λn=>wv n)++(F.less.map (λn=>wv n)++(F.aW.map (λn=>wv n)++F.first.map iv))):=Ip (pa:=bv F.has:: .mp mp::F.az.map (λn=>wv n)) rfl (by simp[k.az]) h
theorem Kn.abg{F:Kn}(k:bR F){mp p v:Nat}(h:p<F.hours.length):(F.l mp).take (6+p)++[wv v]++(F.l mp).drop (6+p+1)=({F with hours:=F.hours.set p v}:Kn).l mp:=Iq (g:=λn=>wv n) (pa:=bv F.has:: .mp mp::F.az.map (λn=>wv n)) rfl (by simp[k.az]) h
theorem Kn.N8{F:Kn}(k:bR F){mp p n:Nat}(h:F.less[p]?=some n):(F.l mp).drop (10+p)=wv n::((F.less.drop (p+1)).map (λn=>wv n)++(F.aW.map (λn=>wv n)++F.first.map iv)):=Ip (pa:=bv F.has:: .mp mp::(F.az.map (λn=>wv n)++F.hours.map (λn=>wv n))) (by simp[Kn.l]) (by simp[k.az,k.hours]) h
theorem Kn.ab4{F:Kn}(k:bR F){mp p v:Nat}(h:p<F.less.length):(F.l mp).take (10+p)++[wv v]++(F.l mp).drop (10+p+1)=({F with less:=F.less.set p v}:Kn).l mp:=by
 have:=Iq (g:=λn=>wv n) (ca:=F.l mp) (y:=v) (pa:=bv F.has:: .mp mp::(F.az.map (λn=>wv n)++F.hours.map (λn=>wv n))) (ra:=F.aW.map (λn=>wv n)++F.first.map iv) (by simp[Kn.l]) (show _=10 by simp[k.az,k.hours]) h;rw[this];simp[Kn.l]
theorem Kn.Fa{F:Kn}(k:bR F){mp p n:Nat}(h:F.aW[p]?=some n):(F.l mp).drop (14+p)=wv n::((F.aW.drop (p+1)).map (λn=>wv n)++F.first.map iv):=Ip (pa:=bv F.has:: .mp mp::(F.az.map (λn=>wv n)++(F.hours.map (λn=>wv n)++F.less.map (λn=>wv n)))) (by simp[Kn.l]) (by simp[k.az,k.hours,k.less]) h
theorem Kn.ac6{F:Kn}(k:bR F){mp p v:Nat}(h:p<F.aW.length):(F.l mp).take (14+p)++[wv v]++(F.l mp).drop (14+p+1)=({F with aW:=F.aW.set p v}:Kn).l mp:=by
 have:=Iq (g:=λn=>wv n) (ca:=F.l mp) (y:=v) (pa:=bv F.has:: .mp mp::(F.az.map (λn=>wv n)++(F.hours.map (λn=>wv n)++F.less.map (λn=>wv n)))) (ra:=F.first.map iv) (by simp[Kn.l]) (show _=14 by simp[k.az,k.hours,k.less]) h;rw[this];simp[Kn.l]
theorem Kn.Dg{F:Kn}{mp:Nat}:(F.l mp)[0]?=some (bv F.has):=rfl
theorem Kn.aio{F:Kn}{mp:Nat}:(F.l mp).drop 1=.mp mp::(F.az.map (λn=>wv n)++(F.hours.map (λn=>wv n)++(F.less.map (λn=>wv n)++(F.aW.map (λn=>wv n)++F.first.map iv)))):=rfl
theorem Kn.ar3{F:Kn}{mp:Nat}:(F.l mp).take 0++[bv true]++(F.l mp).drop (0+1)=({F with has:=true}:Kn).l mp:=rfl
theorem Kn.adJ{F:Kn}(k:bR F){mp:Nat}{t:List Int}(ht:t.length=11):(F.l mp).take 17++t.map iv++(F.l mp).drop (17+11)=({F with first:=t}:Kn).l mp:=by
 have e:F.l mp=(bv F.has:: .mp mp::(F.az.map (λn=>wv n)++(F.hours.map (λn=>wv n)++(F.less.map (λn=>wv n)++F.aW.map (λn=>wv n)))))++F.first.map iv:=by simp[Kn.l]
 have hl:(bv F.has::AV.mp mp::(F.az.map (λn=>wv n)++(F.hours.map (λn=>wv n)++(F.less.map (λn=>wv n)++F.aW.map (λn=>wv n))))).length=17:=by simp[k.az,k.hours,k.less,k.aW]
 rw[T7 (by rw[Kn.len k];omega),e,TB (by omega),SW (by omega),SN];simp[Kn.l]
structure jB (x:ak)(t:List Int):Prop where
 len:t.length=11
 aT:mM (t.take 4)
 num:∀p,p<x.pieces.length->∃n:Nat,t[4+p]?=some (n:Int)/\n<9/\0<=jw (t.take 4) (n+t.getD 0 0)
 own:∀s,s<x.aC.length->∃o:Nat,t[8+s]?=some (o:Int)/\o<4
end Tk
def setH (hs:List (List Int)):aa:=.obj (.map (hs.zipIdx.map eG).toArray hs.length)
theorem rh{H:List aa}{i:Nat}{x:aa}(h:H[i]?=some x):H.set i x=H:=by
 apply Yw;intro j;rw[UX];split
 ·rename_i e;subst e;rw[if_pos (eW h)];exact h.symm
 ·rfl
theorem v6{H L:List aa}{i:Nat}{x:aa}(h:i<H.length):(H++L).set i x=H.set i x++L:=U1 _ _ h
section
variable {lv:Bool}{H:List aa}{k kp:AV->List aa->Prop}
theorem QM{F:Kn}{t:List Int}(h:bR F)(ht:t.length=11):bR (jR F t):=by
 unfold jR;split
 ·exact h
 ·exact⟨h.az,h.hours,h.less,h.aW,ht,h.mF,h.mV,h.nb,h.l_,h.h4⟩
theorem EN{l:List Nat}{i v:Nat}(h:∀n∈l,n<65536)(hv:v<65536):∀n∈l.set i v,n<65536:=λn hn=>by
 rcases UF hn with h'|rfl
 ·exact h n h'
 ·exact hv
theorem Tk.bR.Fj{G:Kn}(h:bR G){i v:Nat}(hv:v<65536):bR {G with aW:=G.aW.set i v}:=⟨h.az,h.hours,h.less,by simp[h.aW],h.first,h.mF,h.mV,h.nb,EN h.l_ hv,h.h4⟩
theorem Tk.bR.adO{G:Kn}(h:bR G){i v:Nat}(hv:v<65536):bR {G with az:=G.az.set i v}:=⟨by simp[h.az],h.hours,h.less,h.aW,h.first,EN h.mF hv,h.mV,h.nb,h.l_,h.h4⟩
theorem Tk.bR.adM{G:Kn}(h:bR G){i v:Nat}(hv:v<65536):bR {G with hours:=G.hours.set i v}:=⟨h.az,by simp[h.hours],h.less,h.aW,h.first,h.mF,EN h.mV hv,h.nb,h.l_,h.h4⟩
theorem Tk.bR.adN{G:Kn}(h:bR G){i v:Nat}(hv:v<65536):bR {G with less:=G.less.set i v}:=⟨h.az,h.hours,by simp[h.less],h.aW,h.first,h.mF,h.mV,EN h.nb hv,h.l_,h.h4⟩
theorem F3{l:List Nat}{i n v:Nat}(h:l[i]?=some n):pw l i v=l.set i (n|||2^v):=by
 unfold pw;rw[SE,h];rfl
theorem adL(hs:List (List Int)):setH hs=.obj (.map (hs.zipIdx.map eG).toArray hs.length):=rfl
theorem adK(hs:List (List Int))(h:List Int):setH (hs++[h])=.obj (.map ((hs.zipIdx++[(h,hs.length)]).map eG).toArray (hs.length+1)):=by
 rw[adL,List.zipIdx_append,SQ];simp
theorem FE{α:Type}{l:List α}{y:α×Nat}(h:y∈l.zipIdx):y.1∈l:=by
 obtain⟨a,b⟩:=y;have:=List.mem_zipIdx h;simp at this;rw[this.2];exact Ww _
theorem K5{x:List Int}{hs:List (List Int)}:(qz x hs.zipIdx 0=none/\x∉hs)\/(∃i b,qz x hs.zipIdx 0=some (i,.bool true)/\hs.zipIdx[i]?=some (x,b)/\x∈hs):=by
 cases h:qz x hs.zipIdx 0 with
 |none=>
  refine .inl ⟨rfl,λhm=> ?_⟩;obtain⟨i,hi⟩:=UY.1 hm;have:(x,i)∈hs.zipIdx:=UY.2 ⟨i,by rw[List.getElem?_zipIdx,hi];simp⟩;exact Sm h _ this rfl
 |some p=>
  obtain⟨i,v⟩:=p;obtain⟨b,_,h2,rfl⟩:=Sn h;rw[Z']at h2;exact .inr ⟨i,b,rfl,h2,FE (y:=(x,b)) (S6 h2)⟩
theorem F.i3:∃i,SA.info? 3=some i/\i.size=1:=by
 obtain⟨i,h1,h2⟩:=Ts.1 F.i3s;exact⟨i,h1,h2⟩
theorem v4{H L:List aa}{i:Nat}{z:aa}(h:i<H.length):(H.set i z++L)[i]?=some z:=by
 rw[S0 (by simpa using h),UX,if_pos rfl,if_pos h]
theorem v5{H L:List aa}{i:Nat}{z y:aa}(h:i<H.length):(H.set i z++L).set i y=H.set i y++L:=by
 rw[v6 (by simpa using h),Xf]
theorem aka{x:ak}{t:List Int}{deep:Int}{fp mp:Nat}{Q:Kn}(hx:x.Ok)(ht:jB x t)(hQ:bR Q)(mo:fp≠mp)(hf:H[fp]?=some (.cells (Q.l mp) 88))(hm:H[mp]?=some (setH Q.aL))(hk:k (.aQ []) ((H.set fp (.cells ((eK x deep Q t).l mp) 88)).set mp (setH (eK x deep Q t).aL))):ba lv SA 99 H [.op fp 0,x.av,.agg (t.map iv),iv deep] k kp:=by
 refine bD (rs:=[]) (nt:=135) Tryz.f99 λhH hA=> ?_;simp only[bp,SU,ak.av];have ki:=ht.len;have Lr:(t.map iv).length=11:=by rw[Ta,ki]
 have lq:=eW hf;have yY:=eW hm;have aa3:=Kn.len hQ mp;have bU:x.l=[iv x.first,iv x.hours,iv x.am,c_ x.seen,aN x.pieces,aN x.aC]:=rfl;have dA:∀(L:List aa) i,(H++L)[H.length+i]?=L[i]?:=λL i=>aZ H L i;obtain⟨R1,qC⟩:∃R1,R1=jR Q t:=⟨_,rfl⟩;have nN:bR R1:=by rw[qC];exact QM hQ ki
 have Dq:R1.aL=Q.aL:=by rw[qC];unfold jR;split<;>rfl
 obtain⟨H1,lN⟩:∃H1,H1=H.set fp (.cells (R1.l mp) 88):=⟨_,rfl⟩;have cP:H1.length=H.length:=by rw[lN,TK]
 have yz:H1[fp]?=some (.cells (R1.l mp) 88):=by rw[lN,UX,if_pos rfl,if_pos lq]
 have GG:H1[mp]?=some (setH R1.aL):=by rw[lN,Ud mo,Dq];exact hm
 have ams:∀G:Kn,∀hs:List (List Int),bJ ((H1.set fp (.cells (G.l mp) 88)).set mp (setH hs)):=λG hs=>by
  have hl:((H1.set fp (.cells (G.l mp) 88)).set mp (setH hs)).length=H.length:=by rw[TK,TK,cP]
  intro z hz;rw[hl];rcases UF hz with hz|rfl
  ·rcases UF hz with hz|rfl
   ·rw[lN]at hz;rcases UF hz with hz|rfl
    ·exact hH z hz
    ·intro a ha;simp only[Kn.l,SK,SV,Tf]at ha;rcases ha with rfl|rfl|⟨_,_,rfl⟩|⟨_,_,rfl⟩|⟨_,_,rfl⟩|⟨_,_,rfl⟩|⟨_,_,rfl⟩
     ·exact .val _
     ·exact .mp (by omega)
     all_goals exact .val _
   ·intro a ha;simp only[Kn.l,SK,SV,Tf]at ha;rcases ha with rfl|rfl|⟨_,_,rfl⟩|⟨_,_,rfl⟩|⟨_,_,rfl⟩|⟨_,_,rfl⟩|⟨_,_,rfl⟩
    ·exact .val _
    ·exact .mp (by omega)
    all_goals exact .val _
  ·trivial
 have iK:k (.aQ []) ((H1.set fp (.cells ((eK x deep Q t).l mp) 88)).set mp (setH (eK x deep Q t).aL)):=by rw[lN,Xf];exact hk
 have dS:∀(G:Kn)(hs:List (List Int))(L:List aa),eK x deep Q t=G->G.aL=hs->cH H1.length ((H1.set fp (.cells (G.l mp) 88)).set mp (setH hs)++L) (.aQ []) k:=λG hs L hG iX=>by
  subst hG iX;exact jE (Wk.refl _) rfl (by rw[TK,TK,cP];exact SO _) (ams _ _) (by simp[jM]) iK
 have aE:eK x deep Q t=(if deep=2 then{R1 with aW:=nd t x.aC.length R1.aW}else if deep=0 then{R1 with aL:=jN R1.aL (t.take 4)}else{R1 with az:=sB t x.pieces.length R1.az,hours:=xc t x.pieces.length R1.hours,less:=zt t x.pieces.length x.pieces.length R1.less}):=by rw[qC];rfl
 rw[aE]at dS;clear hk iK aE;refine aj ?_;refine ab ?_;simp only[seval,fU hf,Kn.Dg];refine aD ?_;refine⟨λhc=> ?ga,λhc=> ?gb⟩
 case' ga=>
  have e1:R1={Q with has:=true,first:=t}:=by rw[qC];unfold jR;rw[hc];rfl
  have eH:∀L:List aa,(H++L).set fp (.cells (({Q with has:=true}:Kn).l mp) 88)=H.set fp (.cells (({Q with has:=true}:Kn).l mp) 88)++L:=λL=>v6 lq;have GO:bR {Q with has:=true}:=⟨hQ.az,hQ.hours,hQ.less,hQ.aW,hQ.first,hQ.mF,hQ.mV,hQ.nb,hQ.l_,hQ.h4⟩;have al7:=Kn.len GO mp;have IV:=Kn.adJ GO (mp:=mp) (t:=t) ki;have Bu:Uh 11 (t.map iv)=t.map iv:=SW (by omega);have alQ:∀(z:aa)(L:List aa),(H.set fp z++L)[H.length+1]?=L[1]?:=λz L=>by have:=aZ (H.set fp z) L 1;rwa [TK]at this
  refine nB [5,8] (SR 9) (λD=>bif isDone 8 D then H1++[.cells x.l 76,.cells (t.map iv) 86]else bif isDone 5 D then H.set fp (.cells (({Q with has:=true}:Kn).l mp) 88)++[.cells x.l 76,.cells (t.map iv) 86]else H++[.cells x.l 76,.cells (t.map iv) 86]) ?_;simp only[seval,fU hf,v4 lq,v5 lq,v6 lq,aa3,al7,ki,Lr,Bu,alQ];have eL:(AV.val (.bool true)::(Uh 16 (TR 1 (Q.l mp))++t.map iv++TR 27 (TR 1 (Q.l mp))))=R1.l mp:=by rw[e1];exact IV
  refine⟨by rfl,by rw[Ur,aa3];omega,by rw[eL,lN],?_⟩;rw[eL,<- lN,<- cP]
 case' gb=>
  have e1:R1=Q:=by rw[qC];unfold jR;rw[hc];rfl
  have KE:H1=H:=by rw[lN,e1];exact rh hf
  refine aF ?_;rw[<- KE]
 all_goals
  clear hc e1;have lT:fp<H1.length:=by omega
  have bi:∀(L:List aa),(H1++L)[H1.length]?=L[0]?:=λL=>aZ H1 L 0;have cQ:∀(L:List aa),(H1++L)[H1.length+1]?=L[1]?:=λL=>aZ H1 L 1;have dg:∀(z:aa)(L:List aa),(H1.set fp z++L)[H1.length]?=L[0]?:=λz L=>by have:=aZ (H1.set fp z) L 0;rwa [TK]at this
  have dT:∀(z:aa)(L:List aa),(H1.set fp z++L)[H1.length+1]?=L[1]?:=λz L=>by have:=aZ (H1.set fp z) L 1;rwa [TK]at this
  have HE:∀G:Kn,G.aL=R1.aL->(H1.set fp (.cells (G.l mp) 88)).set mp (setH R1.aL)=H1.set fp (.cells (G.l mp) 88):=λG _=>rh (by rw[Ud mo];exact GG);refine aj ?_;refine aj ?_;refine aD ?_;refine⟨λh2=> ?_,λh2=> ?_⟩
  ·
   replace h2:deep=2:=(by simpa using h2);have zd:=hx.db;rw[if_pos h2]at dS;refine ab ?_;simp only[seval,bi,bU,aN];refine bP ?_;refine ek x.aC.length (λi:Nat=>[(30,iv i)]) (λi=>H1.set fp (.cells (({R1 with aW:=nd t i R1.aW}:Kn).l mp) 88)++[.cells x.l 76,.cells (t.map iv) 86]) (λi=>bR {R1 with aW:=nd t i R1.aW}) (λ_ _=>rfl) (by simp only[seval];simp[bk,Wk.refl]) (by rw[show ({R1 with aW:=nd t 0 R1.aW}:Kn)=R1 from rfl,rh yz];rfl) (λ_ _ _=>by simp) nN (λbw bG i cw aq R hR=> ?_);refine aj ?_;refine aD ?_;refine⟨λh3=> ?_,λh3=> ?_⟩
   ·have br:i<x.aC.length:=(by omega);obtain⟨o,ho,ho4⟩:=ht.own i br;have qV:sK t i=o:=(by unfold sK;rw[SE,ho];rfl);obtain⟨n,hn⟩:=bE (xs:=nd t i R1.aW) (i:=i) (by have:=aq.aW;simp only at this;omega);have D3:n<65536:=aq.l_ n (S6 hn);have b3:(0<=(i:Int)/\(i:Int)<3)=True:=(by simp;omega);have bH:SD.wrap ((i:Int)+1)=((i+1:Nat):Int):=(by rw[bc _ (by omega)];rfl);have Bj:=Kn.Fa aq (mp:=mp) (p:=i) (n:=n) hn;have oY:=Kn.ac6 aq (mp:=mp) (p:=i) (v:=n|||2^o) (eW hn);have cL:=Kn.len aq mp;refine aF ?_;refine aj ?_;refine ej 15 ?_;simp only[seval,dT,v4 lT,v5 lT,b3,Bj,lc ho];refine gB (wv (n|||2^o)) (dc (uU D3 (show o<16 by omega) ⟨rfl,rfl⟩)) ?_;(try simp only[seval,v4 lT,v5 lT,b3,cL]);refine⟨by omega,?_⟩;rw[oY];refine ab ?_;simp only[seval,bH];have cR:nd t (i+1) R1.aW=(nd t i R1.aW).set i (n|||2^o):=(by rw[nd,qV,F3 hn]);refine hR _ ⟨br,?_,?_⟩
    ·rw[cR];exact aq.Fj (qb D3 (xL (by omega)))
    ·rw[cR];exact bX
   ·have dB:i=x.aC.length:=(by omega);subst dB;have:=dS _ R1.aL [.cells x.l 76,.cells (t.map iv) 86] rfl rfl;rw[HE {R1 with aW:=nd t x.aC.length R1.aW} rfl]at this;refine bO ?_;refine aX ?_;exact this
  ·replace h2:¬deep=2:=(by simpa using h2);rw[if_neg h2]at dS;refine aj ?_;refine aD ?_;refine⟨λh3=> ?_,λh3=> ?_⟩
   ·
    replace h3:deep=0:=(by simpa using h3);rw[if_pos h3]at dS;have En:(t.take 4).length=4:=(by simp[ki]);have tU:∀L:List aa,(H1++L)[mp]?=some (.obj (.map (R1.aL.zipIdx.map eG).toArray R1.aL.length)):=λL=>fU GG;have hfp:∀L:List aa,(H1++L)[fp]?=some (.cells (R1.l mp) 88):=λL=>fU yz;have aa9:mp<H1.length:=(by omega);obtain⟨i3,qI,pQ⟩:=F.i3;have Ls:∀y∈R1.aL.zipIdx,y.1.length=4:=λy hy=>nN.h4 _ (FE hy);have G7:=aep (ts:=R1.aL.zipIdx) F.Fy F.u3 qI pQ En Ls;have G0:=λb=>ael (b:=b) (k:=.i64) (d:=9998) F.Fy F.u3 qI pQ En;refine ej 6 ?_;simp only[seval,hfp,cQ,tU,Kn.aio,ki,Lr];rw[<- Wa];refine ew (zI _) (ew rfl ⟨G0 _,_,G7,?_,?_⟩)
    ·intro i v pL;rcases K5 (x:=t.take 4) (hs:=R1.aL)with⟨h,_⟩|⟨i',b,h,h2,_⟩
     ·rw[h]at pL;cases pL
     ·rw[h]at pL;cases pL;rw[Tp,h2];exact arI _
    ·rcases K5 (x:=t.take 4) (hs:=R1.aL)with⟨h,hn⟩|⟨i',b,h,h2,hn⟩
     ·rw[h,ade,v6 aa9];have:=dS _ _ [.cells x.l 76,.cells (t.map iv) 86] rfl rfl;rw[show jN R1.aL (t.take 4)=R1.aL++[t.take 4] by rw[jN,if_neg hn],adK]at this;rw[show H1.set fp (.cells (({R1 with aL:=R1.aL++[t.take 4]}:Kn).l mp) 88)=H1 from rh yz]at this;refine aX ?_;exact this
     ·rw[h,aqo h2,v6 aa9];have:=dS _ _ [.cells x.l 76,.cells (t.map iv) 86] rfl rfl;rw[show jN R1.aL (t.take 4)=R1.aL by rw[jN,if_pos hn],adL]at this;rw[show H1.set fp (.cells (({R1 with aL:=R1.aL}:Kn).l mp) 88)=H1 from rh yz]at this;refine aX ?_;exact this
   ·
    replace h3:¬deep=0:=(by simpa using h3);rw[if_neg h3]at dS;refine aF ?_;have nY:=hx.ee;obtain⟨P,hP⟩:∃P:Nat->Kn,∀p,P p={R1 with az:=sB t p R1.az,hours:=xc t p R1.hours,less:=zt t x.pieces.length p R1.less}:=⟨_,λ_=>rfl⟩;obtain⟨P',GN⟩:∃P':Nat->Nat->Kn,∀p q,P' p q={R1 with az:=sB t (p+1) R1.az,hours:=xc t (p+1) R1.hours,less:=xr t p q (zt t x.pieces.length p R1.less)}:=⟨_,λ_ _=>rfl⟩;have hP0:P 0=R1:=(by rw[hP];rfl);have hPs:∀p,P' p x.pieces.length=P (p+1):=λp=>(by rw[hP,GN];rfl);refine ab ?_;simp only[seval,bi,bU,aN];refine bP ?_;refine ek x.pieces.length (λi:Nat=>[(62,iv i)]) (λi=>H1.set fp (.cells ((P i).l mp) 88)++[.cells x.l 76,.cells (t.map iv) 86]) (λi=>bR (P i)) (λ_ _=>rfl) (by simp only[seval];simp[bk,Wk.refl]) (by rw[hP0,rh yz];rfl) (λ_ _ _=>by simp) (by rw[hP0];exact nN) (λbw bG p cw aq R hR=> ?_);refine aj ?_;refine aD ?_;refine⟨λh=> ?_,λh=> ?_⟩
    ·have cL:p<x.pieces.length:=(by omega);obtain⟨o,ho,ho9,qV⟩:=ht.num p cL;obtain⟨n,hn⟩:=bE (xs:=(P p).az) (i:=p) (by have:=aq.az;omega);obtain⟨m,fY⟩:=bE (xs:=(P p).hours) (i:=p) (by have:=aq.hours;omega);have D3:n<65536:=aq.mF n (S6 hn);have aa4:m<65536:=aq.mV m (S6 fY);have b4:(0<=(p:Int)/\(p:Int)<4)=True:=(by simp;omega);have bH:SD.wrap ((p:Int)+1)=((p+1:Nat):Int):=(by rw[bc _ (by omega)];rfl);have Bj:=Kn.Iv (mp:=mp) hn;have oY:=Kn.acP (mp:=mp) (p:=p) (v:=n|||2^o) (eW hn);have Bl:=Kn.len aq mp;have lZ:iN t p=o:=(by unfold iN;rw[SE,ho];rfl);refine aF ?_;refine aj ?_;refine ej 15 ?_;simp only[seval,dT,v4 lT,v5 lT,b4,Bj,lc ho];refine gB (wv (n|||2^o)) (dc (uU D3 (show o<16 by omega) ⟨rfl,rfl⟩)) ?_;(try simp only[seval,v4 lT,v5 lT,b4,Bl]);refine⟨by omega,?_⟩;rw[oY];obtain⟨c0,yK⟩:=bE (xs:=t) (i:=0) (by omega);have GY:t.getD 0 0=c0:=(by rw[SE,yK];rfl);rw[GY]at qV;have aaE:c0∈t.take 4:=by
      match t,ki,yK with
      |a::t',_,yK=>cases yK;simp
     have pM:=ht.aT.lo c0 aaE;have G_:=ht.aT.hi c0 aaE;have ep:SD.wrap ((o:Int)+c0)=(o:Int)+c0:=bc _ (by omega);have aln:(t.map iv)[0]?=some (iv c0):=(by rw[Tp,yK];rfl);obtain⟨u,hu⟩:=Int.eq_ofNat_of_zero_le qV;have hu4:u<4:=by
      have h5:jw (t.take 4) ((o:Int)+c0)<0+(t.take 4).length:=aeE;rw[ht.aT.len,hu]at h5;omega
     have HM:Ft t p=u:=by
      unfold Ft;rw[SE,ho,GY];simp only[S8];rw[hu];rfl
     obtain⟨G1,yB⟩:∃G1,G1=({P p with az:=(P p).az.set p (n|||2^o)}:Kn):=⟨_,rfl⟩;have Dm:bR G1:=(by rw[yB];exact aq.adO (qb D3 (xL (by omega))));have ME:G1.hours[p]?=some m:=(by rw[yB];exact fY);rw[<- yB];have abk:=Kn.MU Dm (mp:=mp) ME;have abm:=Kn.abg Dm (mp:=mp) (p:=p) (v:=m|||2^u) (eW ME);have abl:=Kn.len Dm mp;refine ej 22 ?_;simp only[seval,dT,v4 lT,v5 lT,b4,abk,lc ho,Lr,ki,ep];rw[<- Wa];refine ew aln ?_;(try simp only[seval,ep]);refine gB (iv u) (dc (Sk (h:=t.take 4) (n:=(o:Int)+c0) ht.aT.len ⟨by rw[hu],rfl⟩)) ?_;refine gB (wv (m|||2^u)) (dc (uU aa4 (show u<16 by omega) ⟨rfl,rfl⟩)) ?_;(try simp only[seval,v4 lT,v5 lT,b4,abl]);refine⟨by omega,?_⟩;rw[abm];have LI:({G1 with hours:=G1.hours.set p (m|||2^u)}:Kn)=P' p 0:=by
      rw[yB,GN];simp only[hP]at hn fY⊢;rw[sB,lZ,F3 hn,xc,HM,F3 fY];rfl
     have ak7:bR (P' p 0):=(by rw[<- LI];exact Dm.adM (qb aa4 (xL (by omega))));rw[LI];clear oY Bj Bl Dm ME abk abm abl LI yB hn fY aq;refine ab ?_;simp only[seval,dg,bU,aN];refine bP ?_;refine ek x.pieces.length (λi:Nat=>[(108,iv i)]) (λi=>H1.set fp (.cells ((P' p i).l mp) 88)++[.cells x.l 76,.cells (t.map iv) 86]) (λi=>bR (P' p i)) (λ_ _=>rfl) (by simp only[seval];simp[bk,Wk.refl]) rfl (λ_ _ _=>by simp) ak7 (λaav avg q vw nX R' hR'=> ?_);refine aj ?_;refine aD ?_;refine⟨λh=> ?_,λh=> ?_⟩
     ·have hO:q<x.pieces.length:=(by omega);obtain⟨o2,ho2,avr,_⟩:=ht.num q hO;have b4q:(0<=(q:Int)/\(q:Int)<4)=True:=(by simp;omega);have j4:SD.wrap ((q:Int)+1)=((q+1:Nat):Int):=(by rw[bc _ (by omega)];rfl);have cR:P' p (q+1)={P' p q with less:=if o<o2 then pw (P' p q).less p q else(P' p q).less}:=by
       rw[GN,GN,xr];simp only[SE,ho,ho2,S8];by_cases hlt:o<o2
       ·rw[if_pos (by omega),if_pos hlt]
       ·rw[if_neg (by omega),if_neg hlt]
      refine aF ?_;refine aj ?_;refine ej 8 ?_;simp only[seval,dT,b4,b4q,lc ho,lc ho2];refine aD ?_;refine⟨λh=> ?_,λh=> ?_⟩
      ·have hlt:o<o2:=(by simpa using h);rw[if_pos hlt]at cR;obtain⟨v,hv⟩:=bE (xs:=(P' p q).less) (i:=p) (by have:=nX.less;omega);have HO:v<65536:=nX.nb v (S6 hv);have amy:=Kn.N8 nX (mp:=mp) hv;have amC:=Kn.ab4 nX (mp:=mp) (p:=p) (v:=v|||2^q) (eW hv);have amB:=Kn.len nX mp;rw[F3 hv]at cR;refine ej 12 ?_;simp only[seval,v4 lT,v5 lT,b4,amy];refine gB (wv (v|||2^q)) (dc (uU HO (show q<16 by omega) ⟨rfl,rfl⟩)) ?_;(try simp only[seval,v4 lT,v5 lT,b4,amB]);refine⟨by omega,?_⟩;rw[amC,<- cR];refine ab ?_;simp only[seval,j4];refine hR' _ ⟨hO,?_,?_⟩
       ·rw[cR];exact nX.adN (qb HO (xL (by omega)))
       ·exact bX
      ·have hlt:¬o<o2:=(by simpa using h);rw[if_neg hlt]at cR;refine aF ?_;refine ab ?_;simp only[seval,j4];rw[show ({P' p q with less:=(P' p q).less}:Kn)=P' p q from rfl]at cR;refine hR' _ ⟨hO,?_,?_⟩
       ·rw[cR];exact nX
       ·rw[cR];exact bX
     ·have hqe:q=x.pieces.length:=(by omega);subst hqe;rw[hPs]at nX⊢;refine bO ?_;refine ab ?_;simp only[seval,bH];exact hR _ ⟨cL,nX,bX⟩
    ·have iA:p=x.pieces.length:=(by omega);subst iA;have:=dS _ R1.aL [.cells x.l 76,.cells (t.map iv) 86] rfl rfl;rw[<- hP,HE (P _) (by rw[hP])]at this;refine bO ?_;exact this
end
open Go.Conc Go.Proofs Go.Gg.Tk
namespace Tk
def h_ (F:Kn)(hs:List (List Int))(G:Kn):Kn:=if G.has then⟨true,hs.foldl jN F.aL,l9 F.az G.az,l9 F.hours G.hours,l9 F.less G.less,l9 F.aW G.aW,if F.has=false\/te G.first F.first then G.first else F.first⟩else F
def oi (l m:List Nat):Nat->List Nat
 |0=>l
 |i+1=>(oi l m i).set i ((oi l m i).getD i 0|||m.getD i 0)
end Tk
theorem IE{l m:List Nat}{i a b:Nat}(ha:(oi l m i)[i]?=some a)(hb:m[i]?=some b):oi l m (i+1)=(oi l m i).set i (a|||b):=by
 rw[oi,SE,SE,ha,hb];rfl
theorem apF{l m:List Nat}(h:l.length=m.length){i:Nat}(hi:i<=l.length):oi l m i=l9 (l.take i) (m.take i)++l.drop i:=by
 induction i with
 |zero=>simp[oi,l9]
 |succ i ih=>
  have hl:i<l.length:=by omega
  have hm:i<m.length:=by omega
  have e1:(l9 (l.take i) (m.take i)).length=i:=by simp[l9];omega
  have e2:(oi l m i).getD i 0=l[i]:=by
   rw[ih (by omega),SE,S_ (by omega),e1];simp[hl]
  rw[oi,e2,ih (by omega),Ue _ _ (by omega),e1,Vp,SE,SY hm,S8,T4 hl,T9,Uo,Uo,SY hl,SY hm,YV,YV];unfold l9;rw[List.zipWith_append (by simp;omega)];simp
theorem ID{l m:List Nat}(h:l.length=m.length){n:Nat}(hn:l.length=n):oi l m n=l9 l m:=by
 subst hn;rw[apF h (SO _),h,Tn,T7 (by omega),SN,<- h,Tn]
theorem ai7{lv:Bool}{H:List aa}{k kp:AV->List aa->Prop}{fp mp mg:Nat}{Q G:Kn}(hQ:bR Q)(hG:bR G)(mo:fp≠mp)(qH:mg≠mp)(hf:H[fp]?=some (.cells (Q.l mp) 88))(hm:H[mp]?=some (setH Q.aL))(hg:H[mg]?=some (setH G.aL))(xa:G.aL.Nodup)(hk:∀hs:List (List Int),hs.Perm G.aL->k (.aQ []) ((H.set fp (.cells ((h_ Q hs G).l mp) 88)).set mp (setH (h_ Q hs G).aL))):ba lv SA 102 H [.op fp 0,.agg (G.l mg)] k kp:=by
 refine bD (rs:=[]) (nt:=121) Tryz.f102 λhH hA=> ?_;simp only[bp,SU];have lq:=eW hf;have yY:=eW hm;have jV:=eW hg;have G8:=Kn.len hG mg;have HB:=Kn.len hQ mp;have tQ:(G.l mg).drop 17=G.first.map iv:=by
  have e:G.l mg=(bv G.has:: .mp mg::(G.az.map (λn=>wv n)++(G.hours.map (λn=>wv n)++(G.less.map (λn=>wv n)++G.aW.map (λn=>wv n)))))++G.first.map iv:=by simp[Kn.l]
  rw[e,Wt (by simp[hG.az,hG.hours,hG.less,hG.aW]),T7 (by simp[hG.az,hG.hours,hG.less,hG.aW])];rfl
 refine aj ?_;refine ab ?_;simp only[seval,Kn.Dg];refine aD ?_;refine⟨λh=> ?_,λh=> ?_⟩
 ·
  have Mi:G.has=false:=by simpa using h
  have:=hk G.aL (aj_ _);rw[h_,Mi]at this;simp only[TV,if_false]at this;rw[rh hf,rh hm]at this;refine aX ?_;exact iH hH (Wk.refl _) (by simp[jM]) this
 ·have Mi:G.has=true:=by simpa using h
  refine aF ?_;obtain⟨R1,qC⟩:∃R1,R1=(if Q.has=false\/te G.first Q.first=true then{Q with first:=G.first}else Q):=⟨_,rfl⟩;have nN:bR R1:=by
   rw[qC];split
   ·exact⟨hQ.az,hQ.hours,hQ.less,hQ.aW,hG.first,hQ.mF,hQ.mV,hQ.nb,hQ.l_,hQ.h4⟩
   ·exact hQ
  have Dq:R1.aL=Q.aL:=by rw[qC];split<;>rfl
  obtain⟨H1,lN⟩:∃H1,H1=H.set fp (.cells (R1.l mp) 88):=⟨_,rfl⟩;have bi:∀(L:List aa),(H++L)[H.length]?=L[0]?:=λL=>aZ H L 0;have dg:∀(z:aa)(L:List aa),(H.set fp z++L)[H.length]?=L[0]?:=λz L=>by have:=aZ (H.set fp z) L 0;rwa [TK]at this
  have ki:=hG.first;have Bu:Uh 11 (G.first.map iv)=G.first.map iv:=SW (by rw[Ta];omega);have IV:Uh 17 (Q.l mp)++G.first.map iv++TR 28 (Q.l mp)=({Q with first:=G.first}:Kn).l mp:=Kn.adJ hQ ki;have hqd:(Q.l mp).drop 17=Q.first.map iv:=by
   have e:Q.l mp=(bv Q.has:: .mp mp::(Q.az.map (λn=>wv n)++(Q.hours.map (λn=>wv n)++(Q.less.map (λn=>wv n)++Q.aW.map (λn=>wv n)))))++Q.first.map iv:=(by simp[Kn.l]);rw[e,Wt (by simp[hQ.az,hQ.hours,hQ.less,hQ.aW]),T7 (by simp[hQ.az,hQ.hours,hQ.less,hQ.aW])];rfl
  have abw:Uh 11 (Q.first.map iv)=Q.first.map iv:=SW (by rw[Ta,hQ.first];exact SO _);have cP:H1.length=H.length:=by rw[lN,TK]
  cases HA:Q.has
  case' true=>
   refine ej 12 ?_;simp only[seval,fU hf,Kn.Dg,HA,bi,tQ,hqd,G8,HB,Bu,abw];refine⟨by omega,by have:=hQ.first;omega,?_⟩;refine aK ((aje hG.first hQ.first ?_));(try simp only[seval]);refine aD ?_;refine⟨λhb=> ?tt,λhb=> ?tf⟩
  case' false=>
   refine ej 12 ?_;simp only[seval,fU hf,Kn.Dg,HA,bi,tQ,hqd,G8,HB,Bu,abw];refine aD ?_
  case' tt=>
   have e1:R1={Q with first:=G.first}:=(by rw[qC,if_pos (.inr hb)]);refine ab ?_;simp only[seval,fU hf,bi,tQ,G8,HB,Bu,ki,v6 lq];rw[IV,<- e1,<- lN,<- cP]
  case' tf=>
   have e1:R1=Q:=(by rw[qC,if_neg (by rw[HA,hb];simp)]);have KE:H1=H:=(by rw[lN,e1];exact rh hf);refine aF ?_;rw[<- KE]
  case' false=>
   have e1:R1={Q with first:=G.first}:=(by rw[qC,if_pos (.inl HA)]);refine ab ?_;simp only[seval,fU hf,bi,tQ,G8,HB,Bu,ki,v6 lq];rw[IV,<- e1,<- lN,<- cP]
  all_goals
   clear e1;have lT:fp<H1.length:=(by omega);have yz:H1[fp]?=some (.cells (R1.l mp) 88):=(by rw[lN,UX,if_pos rfl,if_pos lq]);have GG:H1[mp]?=some (setH R1.aL):=(by rw[lN,Ud mo,Dq];exact hm);have hfg:fp≠mg:=λe=>(by subst e;rw[hf]at hg;cases hg);have h1g:H1[mg]?=some (setH G.aL):=(by rw[lN,Ud hfg];exact hg);obtain⟨R2,gW⟩:∃R2,R2=({R1 with has:=true}:Kn):=⟨_,rfl⟩;have eL:AV.val (.bool true)::TR 1 (R1.l mp)=R2.l mp:=(by rw[gW];rfl);have LK:R2.aL=Q.aL:=(by rw[gW];exact Dq);have u6:bR R2:=(by rw[gW];exact⟨nN.az,nN.hours,nN.less,nN.aW,nN.first,nN.mF,nN.mV,nN.nb,nN.l_,nN.h4⟩);refine ab ?_;simp only[seval,fU yz,v6 lT,Kn.ar3];refine⟨by have:=Kn.len nN mp;omega,?_⟩;rw[eL];obtain⟨B,hB⟩:∃B:Kn->List (List Int)->List aa,∀K hs,B K hs=(H1.set fp (.cells (K.l mp) 88)).set mp (setH hs):=⟨_,λ_ _=>rfl⟩;have dF:∀K hs,(B K hs).length=H1.length:=λK hs=>(by rw[hB,TK,TK]);have hBm:∀K hs (L:List aa),(B K hs++L)[mp]?=some (.obj (.map (hs.zipIdx.map eG).toArray hs.length)):=λK hs L=>by
    rw[S0 (by rw[dF];omega),hB,UX,if_pos rfl,if_pos (by rw[TK];omega)];rfl
   have GI:∀K hs (L:List aa),(B K hs++L)[mg]?=some (.obj (.map (G.aL.zipIdx.map eG).toArray G.aL.length)):=λK hs L=>by
    rw[S0 (by rw[dF];omega),hB,Ud (λe=>qH e.symm),Ud hfg,h1g];rfl
   have oH:∀K hs (L:List aa),(B K hs++L)[fp]?=some (.cells (K.l mp) 88):=λK hs L=>by
    rw[S0 (by rw[dF];omega),hB,Ud (λe=>mo e.symm),UX,if_pos rfl,if_pos (by omega)]
   have ak5:∀K hs pP (L:List aa),(B K hs++L).set mp (setH pP)=B K pP++L:=λK hs pP L=>by
    rw[U1 _ _ (by rw[dF];omega),hB,hB,Xf]
   have GJ:∀K hs K' (L:List aa),(B K hs++L).set fp (.cells (K'.l mp) 88)=B K' hs++L:=λK hs K' L=>by
    rw[U1 _ _ (by rw[dF];omega),hB,hB,List.set_comm _ _ (λe=>mo e.symm),Xf]
   have hBs:H1.set fp (.cells (R2.l mp) 88)=B R2 R2.aL:=by
    rw[hB];symm;exact rh (by rw[Ud mo,GG,LK,Dq])
   have bi:∀K hs (L:List aa),(B K hs++L)[H1.length]?=L[0]?:=λK hs L=>(by rw[<- dF K hs];exact aZ _ L 0);have cQ:∀K hs (L:List aa),(B K hs++L)[H1.length+1]?=L[1]?:=λK hs L=>(by rw[<- dF K hs];exact aZ _ L 1);have kq:∀K hs (L:List aa),(B K hs++L)[H1.length+2]?=L[2]?:=λK hs L=>(by rw[<- dF K hs];exact aZ _ L 2);have Mf:(G.l mg).drop 1=.mp mg::((G.l mg).drop 2):=rfl;have hKd:∀K:Kn,(K.l mp).drop 1=.mp mp::((K.l mp).drop 2):=λ_=>rfl;have cI:∀(K:Kn)(hs:List (List Int)),bJ (B K hs):=λK hs=>by
    intro z hz;rw[dF];rw[hB]at hz;rcases UF hz with hz|rfl
    ·rcases UF hz with hz|rfl
     ·rw[lN]at hz;rcases UF hz with hz|rfl
      ·exact cP▸hH z hz
      ·intro a ha;simp only[Kn.l,SK,SV,Tf]at ha;rcases ha with rfl|rfl|⟨_,_,rfl⟩|⟨_,_,rfl⟩|⟨_,_,rfl⟩|⟨_,_,rfl⟩|⟨_,_,rfl⟩
       ·exact .val _
       ·exact .mp (by omega)
       all_goals exact .val _
     ·intro a ha;simp only[Kn.l,SK,SV,Tf]at ha;rcases ha with rfl|rfl|⟨_,_,rfl⟩|⟨_,_,rfl⟩|⟨_,_,rfl⟩|⟨_,_,rfl⟩|⟨_,_,rfl⟩
      ·exact .val _
      ·exact .mp (by omega)
      all_goals exact .val _
    ·trivial
   have dS:∀(hs:List (List Int))(K:Kn)(L:List aa),hs.Perm G.aL->h_ Q hs G=K->cH H1.length (B K K.aL++L) (.aQ []) k:=λhs K L hp hK=>by
    have:=hk hs hp;rw[hK]at this;subst hK;refine jE (Wk.refl _) rfl (by rw[dF];exact SO _) (cI _ _) (by simp[jM]) ?_;rw[hB,lN,Xf];exact this
   rw[hBs];clear hk hBs;refine ab ?_;simp only[seval,bi,Mf,GI];rw[dF];have aaD:∀K hs (L:List aa) z,(B K hs++L).set (H1.length+1) z=B K hs++L.set 1 z:=λK hs L z=>by
    rw[Ue _ _ (by rw[dF];omega),dF,T5]
   have alm:∀K hs (L:List aa) z,(B K hs++L).set (H1.length+2) z=B K hs++L.set 2 z:=λK hs L z=>by
    rw[Ue _ _ (by rw[dF];omega),dF,T5]
   obtain⟨ts,dU⟩:∃ts,ts=G.aL.zipIdx:=⟨_,rfl⟩;obtain⟨ck,G3⟩:∃ck,ck=G.aL.length:=⟨_,rfl⟩;rw[<- dU,<- G3]at GI;rw[<- G3];have hb:∀y∈ts,y.2<ck:=λy hy=>(by rw[dU]at hy;have:=List.snd_lt_add_of_mem_zipIdx hy;omega);have D4:(ts.map (·.2)).Nodup:=(by rw[dU,show (λy:List Int×Nat=>y.2)=Prod.snd from rfl,List.zipIdx_map_snd];exact List.nodup_range');have h4:∀y∈ts,y.1.length=4:=λy hy=>(by rw[dU]at hy;exact hG.h4 _ (FE hy));have eN:=QT ts ck hb;have Nn:ts.map (·.1)=G.aL:=(by rw[dU,show (λy:List Int×Nat=>y.1)=Prod.fst from rfl,List.zipIdx_map_fst]);clear dU;obtain⟨ac,GQ⟩:∃ac:List (List Int×Nat)->List (List Int),∀vs,ac vs=vs.foldl (λa y=>jN a y.1) R2.aL:=⟨_,λ_=>rfl⟩;have aax:ac []=R2.aL:=(by rw[GQ];rfl);have LN:∀vs y,ac (vs++[y])=jN (ac vs) y.1:=λvs y=>(by rw[GQ,GQ,WZ];rfl);obtain⟨i3,qI,pQ⟩:=F.i3;refine bP ?_;refine An (measure λvs:List (List Int×Nat)=>ts.length-vs.length).wf (λvs=>[]) (λvs=>B R2 (ac vs)++[.cells (G.l mg) 88,.iter mg ck (vs.map (·.2)).toArray ck]) (λvs=>(vs.map (·.2)).Nodup/\(∀y∈vs,y∈ts)/\∀h∈ac vs,h.length=4) [] (λ_ _=>rfl) (by simp) (by rw[aax];rfl) (λ_ _=>by simp[dF]) ⟨by simp,by simp,by rw[aax,LK];exact hQ.h4⟩ (λbw bG vs aq R hR=> ?_);refine ab ?_;simp only[seval,cQ,GI,aaD];refine⟨eN.elim .inl (λh=> .inr (.inl h)),λe he hn=> ?_,λhs=> ?_⟩
   ·obtain⟨y,hy,rfl⟩:∃y∈ts,eG y=e:=(by simpa using he);refine aD ?_;refine aF ?_;refine bP ?_;have tC:=h4 y hy;have LX:(eG y).born=y.2:=rfl;have hlen:(y.1.map iv).length=4:=(by simp[tC]);have L8:TR 4 [AV.val (SF SD 0),AV.val (SF SD 0),AV.val (SF SD 0),AV.val (SF SD 0)]=[]:=rfl;refine ab ?_;simp only[seval,cQ,GI,aaD,alm,kq,dF,Array.back?_push,LX,Sp D4 hy,acR,tC,hlen,L8];refine ej 10 ?_;simp only[seval,oH,hKd,hBm,kq,hlen,tC];have abv:Uh 4 (y.1.map iv)=y.1.map iv:=SW (by omega);have Ls:∀z∈(ac vs).zipIdx,z.1.length=4:=λz hz=>aq.2.2 _ (FE hz);have G7:=aep (ts:=(ac vs).zipIdx) F.Fy F.u3 qI pQ tC Ls;have G0:=λb=>ael (b:=b) (k:=.i64) (d:=9998) F.Fy F.u3 qI pQ tC;have Hz:((vs.map (·.2)).toArray.push y.2)=((vs++[y]).map (·.2)).toArray:=(by simp);have Nw:y.2∉vs.map (·.2):=(by simpa[eG]using hn);have tW:((vs++[y]).map (·.2)).Nodup/\(∀z∈vs++[y],z∈ts)/\∀h∈ac (vs++[y]),h.length=4:=by
     refine⟨?_,λz hz=> ?_,λh hh=> ?_⟩
     ·rw[To,Vh];refine⟨aq.1,by simp,λa ha b hb=> ?_⟩;simp at hb;subst hb;intro e;subst e;exact Nw ha
     ·rcases SV.1 hz with h|h
      ·exact aq.2.1 z h
      ·rw[S9.1 h];exact hy
     ·rw[LN,jN]at hh;split at hh
      ·exact aq.2.2 _ hh
      ·rcases SV.1 hh with h'|h'
       ·exact aq.2.2 _ h'
       ·rw[S9.1 h'];exact tC
    have hlen:vs.length<ts.length:=by
     have h1:(vs++[y]).Nodup:=ER _ tW.1;have:=h1.length_le_of_subset tW.2.1;simp at this;omega
    have se:ts.length-(vs++[y]).length<ts.length-vs.length:=(by simp;omega);have Hu:∀sn,bJ (B R2 (ac (vs++[y]))++[aa.cells (G.l mg) 88,aa.iter mg ck sn ck]):=λsn z hz=>by
     rcases SV.1 hz with h|h
     ·exact(cI _ _ z h).mono (by simp)
     ·have tF:∀a∈G.l mg,Lt H1.length a:=λa ha=>by
       simp only[Kn.l,SK,SV,Tf]at ha;rcases ha with rfl|rfl|⟨_,_,rfl⟩|⟨_,_,rfl⟩|⟨_,_,rfl⟩|⟨_,_,rfl⟩|⟨_,_,rfl⟩
       ·exact .val _
       ·exact .mp (by omega)
       all_goals exact .val _
      simp only[SK,SZ,or_false]at h;rcases h with rfl|rfl
      ·intro a ha;exact(tF a ha).mono (by simp[dF])
      ·show mg<_;simp[dF];omega
    rw[abv];refine ew F.Qa (ew (zI _) ⟨G0 _,_,G7,?_⟩);rcases K5 (x:=y.1) (hs:=ac vs)with⟨h,D5⟩|⟨i',b,h,h2,D5⟩
    ·rw[h];(try simp only[seval,AV.found]);refine aj ?_;refine aD ?_;refine ej 5 ?_;simp only[seval,oH,hKd,hBm,kq,hlen,tC];rw[abv];refine ew (zI _) (ew rfl ⟨G0 _,_,G7,?_,?_⟩)
     ·intro i v pL;rw[h]at pL;cases pL
     ·rw[h,ade,<- adK,ak5,show ac vs++[y.1]=ac (vs++[y]) by rw[LN,jN,if_neg D5],Hz];refine hR _ ⟨vs++[y],se,tW,?_⟩;exact BU (lC rfl rfl) (by simp only[seval]<;>simp[bk,Wk.refl]) (Hu _) (by simp[dZ])
    ·rw[h];(try simp only[seval,AV.found]);refine aj ?_;refine aD ?_;refine aF ?_;rw[show ac vs=ac (vs++[y]) by rw[LN,jN,if_pos D5],Hz];refine hR _ ⟨vs++[y],se,tW,?_⟩;exact BU (lC rfl rfl) (by simp only[seval]<;>simp[bk,Wk.refl]) (Hu _) (by simp[dZ])
   ·have hp:vs.Perm ts:=ady aq.1 D4 aq.2.1 λy hy=>by
     have:=hs (eG y) (by simp;exact⟨y.1,y.2,hy,rfl⟩) (hb y hy);simpa[eG]using this
    refine aD ?_;refine bO ?_;obtain⟨K,hK⟩:∃K:Nat->Nat->Kn,∀i j,K i j={R2 with az:=oi R2.az G.az i,hours:=oi R2.hours G.hours i,less:=oi R2.less G.less i,aW:=oi R2.aW G.aW j}:=⟨_,λ_ _=>rfl⟩;have hK0:K 0 0=R2:=(by rw[hK];rfl);refine aj ?_;refine bP ?_;refine ek 4 (λi:Nat=>[(57,iv i)]) (λi=>B (K i 0) (ac vs)++[.cells (G.l mg) 88,.iter mg ck (vs.map (·.2)).toArray ck]) (λi=>bR (K i 0)) (λ_ _=>rfl) (by simp only[seval];simp[bk,Wk.refl]) (by rw[hK0]) (λ_ _ _=>by simp[dF]) (by rw[hK0];exact u6) (λavd avh i cw vv R hR=> ?_);refine aj ?_;refine aD ?_;refine⟨λh=> ?_,λh=> ?_⟩
    ·have br:i<4:=(by omega);obtain⟨a1,rT⟩:=bE (xs:=(K i 0).az) (i:=i) (by have:=vv.az;omega);obtain⟨a2,Ds⟩:=bE (xs:=(K i 0).hours) (i:=i) (by have:=vv.hours;omega);obtain⟨a3,GP⟩:=bE (xs:=(K i 0).less) (i:=i) (by have:=vv.less;omega);obtain⟨c1,dt⟩:=bE (xs:=G.az) (i:=i) (by have:=hG.az;omega);obtain⟨c2,b_⟩:=bE (xs:=G.hours) (i:=i) (by have:=hG.hours;omega);obtain⟨c3,de⟩:=bE (xs:=G.less) (i:=i) (by have:=hG.less;omega);have ED:=vv.mF _ (S6 rT);have la2:=vv.mV _ (S6 Ds);have la3:=vv.nb _ (S6 GP);have EF:=hG.mF _ (S6 dt);have lc2:=hG.mV _ (S6 b_);have lc3:=hG.nb _ (S6 de);have b4:(0<=(i:Int)/\(i:Int)<4)=True:=(by simp;omega);have bH:SD.wrap ((i:Int)+1)=((i+1:Nat):Int):=(by rw[bc _ (by omega)];rfl);refine aF ?_;refine aj ?_;obtain⟨Ka,Dp⟩:∃Ka,Ka=({K i 0 with az:=(K i 0).az.set i (a1|||c1)}:Kn):=⟨_,rfl⟩;have Ix:bR Ka:=(by rw[Dp];exact vv.adO (qb ED EF));have sa:=Kn.acP (F:=K i 0) (mp:=mp) (p:=i) (v:=a1|||c1) (eW rT);rw[<- Dp]at sa;refine ej 13 ?_;simp only[seval,oH,bi,b4,Kn.Iv rT,Kn.Iv dt,CJ,IF ED EF,Kn.len vv mp];refine⟨by omega,?_⟩;rw[sa,GJ];obtain⟨Kb,GL⟩:∃Kb,Kb=({Ka with hours:=Ka.hours.set i (a2|||c2)}:Kn):=⟨_,rfl⟩;have Iy:bR Kb:=(by rw[GL];exact Ix.adM (qb la2 lc2));have yH:Ka.hours[i]?=some a2:=(by rw[Dp];exact Ds);have sb:=Kn.abg Ix (mp:=mp) (p:=i) (v:=a2|||c2) (eW yH);rw[<- GL]at sb;refine ej 13 ?_;simp only[seval,oH,bi,b4,Kn.MU Ix yH,Kn.MU hG b_,CJ,IF la2 lc2,Kn.len Ix mp];refine⟨by omega,?_⟩;rw[sb,GJ];have GV:Kb.less[i]?=some a3:=(by rw[GL,Dp];exact GP);have sc:=Kn.ab4 Iy (mp:=mp) (p:=i) (v:=a3|||c3) (eW GV);have yC:({Kb with less:=Kb.less.set i (a3|||c3)}:Kn)=K (i+1) 0:=by
      rw[GL,Dp,hK (i+1)];simp only[hK]at rT Ds GP⊢;rw[IE rT dt,IE Ds b_,IE GP de]
     have OA:bR (K (i+1) 0):=(by rw[<- yC];exact Iy.adN (qb la3 lc3));rw[yC]at sc;refine ej 13 ?_;simp only[seval,oH,bi,b4,Kn.N8 Iy GV,Kn.N8 hG de,CJ,IF la3 lc3,Kn.len Iy mp];refine⟨by omega,?_⟩;rw[sc,GJ];refine ab ?_;simp only[seval,bH];exact hR _ ⟨br,OA,bX⟩
    ·have dB:i=4:=(by omega);subst dB;refine bO ?_;refine aj ?_;refine bP ?_;refine ek 3 (λi:Nat=>[(103,iv i)]) (λj=>B (K 4 j) (ac vs)++[.cells (G.l mg) 88,.iter mg ck (vs.map (·.2)).toArray ck]) (λj=>bR (K 4 j)) (λ_ _=>rfl) (by simp only[seval];simp[bk,Wk.refl]) rfl (λ_ _ _=>by simp[dF]) vv (λave avi j lS Bg R hR=> ?_);refine aj ?_;refine aD ?_;refine⟨λh=> ?_,λh=> ?_⟩
     ·have dn:j<3:=(by omega);obtain⟨a1,rT⟩:=bE (xs:=(K 4 j).aW) (i:=j) (by have:=Bg.aW;omega);obtain⟨c1,dt⟩:=bE (xs:=G.aW) (i:=j) (by have:=hG.aW;omega);have ED:=Bg.l_ _ (S6 rT);have EF:=hG.l_ _ (S6 dt);have b3:(0<=(j:Int)/\(j:Int)<3)=True:=(by simp;omega);have bH:SD.wrap ((j:Int)+1)=((j+1:Nat):Int):=(by rw[bc _ (by omega)];rfl);refine aF ?_;refine aj ?_;have sa:=Kn.ac6 Bg (mp:=mp) (p:=j) (v:=a1|||c1) (eW rT);have yC:({K 4 j with aW:=(K 4 j).aW.set j (a1|||c1)}:Kn)=K 4 (j+1):=by
       rw[hK 4 (j+1)];simp only[hK]at rT⊢;rw[IE rT dt]
      have OA:bR (K 4 (j+1)):=(by rw[<- yC];exact Bg.Fj (qb ED EF));rw[yC]at sa;refine ej 13 ?_;simp only[seval,oH,bi,b3,Kn.Fa Bg rT,Kn.Fa hG dt,CJ,IF ED EF,Kn.len Bg mp];refine⟨by omega,?_⟩;rw[sa,GJ];refine ab ?_;simp only[seval,bH];exact hR _ ⟨dn,OA,bX⟩
     ·have Mv:j=3:=(by omega);subst Mv;refine bO ?_;have MY:(vs.map (·.1)).Perm G.aL:=by
       have:=hp.map (·.1);rw[Nn]at this;exact this
      have ala:ac vs=(vs.map (·.1)).foldl jN Q.aL:=(by rw[GQ,LK,List.foldl_map]);have hJ:h_ Q (vs.map (·.1)) G={K 4 3 with aL:=ac vs}:=by
       have e2:R2=⟨true,Q.aL,Q.az,Q.hours,Q.less,Q.aW,if Q.has=false\/te G.first Q.first=true then G.first else Q.first⟩:=by
        rw[gW,qC];split<;>rfl
       rw[h_,if_pos Mi,hK,ID (by rw[u6.az,hG.az]) u6.az,ID (by rw[u6.hours,hG.hours]) u6.hours,ID (by rw[u6.less,hG.less]) u6.less,ID (by rw[u6.aW,hG.aW]) u6.aW,ala,e2]
      have:=dS (vs.map (·.1)) _ [.cells (G.l mg) 88,.iter mg ck (vs.map (·.2)).toArray ck] MY hJ;rw[show B ({K 4 3 with aL:=ac vs}:Kn) (ac vs)=B (K 4 3) (ac vs) by rw[hB,hB];rfl]at this;exact this
open Go.Conc Go.Proofs Go.Gg.Tk
namespace Tk
theorem CN{l:List Nat}{i v:Nat}:(pw l i v).length=l.length:=by simp[pw]
theorem F4{l:List Nat}{i v:Nat}(h:∀n∈l,n<65536)(hv:v<16):∀n∈pw l i v,n<65536:=by
 refine EN h (qb ?_ (xL hv));rw[SE];cases hi:l[i]?with
 |none=>exact(by decide:0<65536)
 |some a=>exact h _ (S6 hi)
theorem atb{x:ak}{t:List Int}(ht:jB x t){p:Nat}(hp:p<x.pieces.length):iN t p<16:=by
 obtain⟨n,h1,h2,_⟩:=ht.num p hp;unfold iN;rw[SE,h1];show n<16;omega
theorem ata{t:List Int}(h:t.length=11){p:Nat}:Ft t p<16:=by
 unfold Ft;have h5:jw (t.take 4) (t.getD (4+p) 0+t.getD 0 0)<0+(t.take 4).length:=aeE;have:(t.take 4).length=4:=by simp[h]
 omega
theorem atc{x:ak}{t:List Int}(ht:jB x t){s:Nat}(hs:s<x.aC.length):sK t s<16:=by
 obtain⟨n,h1,h2⟩:=ht.own s hs;unfold sK;rw[SE,h1];show n<16;omega
theorem ac5{x:ak}{t:List Int}(ht:jB x t){l:List Nat}(hl:∀n∈l,n<65536):∀{s:Nat},s<=x.aC.length->(nd t s l).length=l.length/\∀n∈nd t s l,n<65536
 |0,_=>⟨rfl,hl⟩
 |s+1,h=>by
  obtain⟨h1,h2⟩:=ac5 ht hl (s:=s) (by omega);exact⟨CN.trans h1,F4 h2 (atc ht (by omega))⟩
theorem acL{x:ak}{t:List Int}(ht:jB x t){l:List Nat}(hl:∀n∈l,n<65536):∀{s:Nat},s<=x.pieces.length->(sB t s l).length=l.length/\∀n∈sB t s l,n<65536
 |0,_=>⟨rfl,hl⟩
 |s+1,h=>by
  obtain⟨h1,h2⟩:=acL ht hl (s:=s) (by omega);exact⟨CN.trans h1,F4 h2 (atb ht (by omega))⟩
theorem abf{t:List Int}(ht:t.length=11){l:List Nat}(hl:∀n∈l,n<65536):∀{s:Nat},(xc t s l).length=l.length/\∀n∈xc t s l,n<65536
 |0=>⟨rfl,hl⟩
 |s+1=>by
  obtain⟨h1,h2⟩:=abf ht hl (s:=s);exact⟨CN.trans h1,F4 h2 (ata ht)⟩
theorem ab3{t:List Int}{p:Nat}{l:List Nat}(hl:∀n∈l,n<65536):∀{q:Nat},q<=4->(xr t p q l).length=l.length/\∀n∈xr t p q l,n<65536
 |0,_=>⟨rfl,hl⟩
 |q+1,h=>by
  obtain⟨h1,h2⟩:=ab3 hl (q:=q) (t:=t) (p:=p) (by omega);unfold xr;split
  ·exact⟨CN.trans h1,F4 h2 (by omega)⟩
  ·exact⟨h1,h2⟩
theorem ab2{t:List Int}{k:Nat}(hk:k<=4){l:List Nat}(hl:∀n∈l,n<65536):∀{p:Nat},(zt t k p l).length=l.length/\∀n∈zt t k p l,n<65536
 |0=>⟨rfl,hl⟩
 |p+1=>by
  obtain⟨h1,h2⟩:=ab2 hk hl (p:=p) (t:=t);obtain⟨h3,h4⟩:=ab3 h2 (t:=t) (p:=p) hk;exact⟨h3.trans h1,h4⟩
theorem ada{hs:List (List Int)}{h:List Int}(h1:∀y∈hs,y.length=4)(h2:h.length=4):∀y∈jN hs h,y.length=4:=λy hy=>by
 unfold jN at hy;split at hy
 ·exact h1 y hy
 ·rcases SV.1 hy with h'|h'
  ·exact h1 y h'
  ·rw[S9.1 h'];exact h2
theorem Pw{x:ak}{deep:Int}{Q:Kn}{t:List Int}(hx:x.Ok)(ht:jB x t)(hQ:bR Q):bR (eK x deep Q t):=by
 have hB:=QM hQ ht.len;unfold eK;dsimp only;generalize jR Q t=R at hB;split
 ·obtain⟨h1,h2⟩:=ac5 ht hB.l_ (SO _);exact⟨hB.az,hB.hours,hB.less,h1.trans hB.aW,hB.first,hB.mF,hB.mV,hB.nb,h2,hB.h4⟩
 ·split
  ·exact⟨hB.az,hB.hours,hB.less,hB.aW,hB.first,hB.mF,hB.mV,hB.nb,hB.l_,ada hB.h4 (by simp[ht.len])⟩
  ·obtain⟨h1,h2⟩:=acL ht hB.mF (SO _);obtain⟨h3,h4⟩:=abf ht.len hB.mV (s:=x.pieces.length);obtain⟨h5,h6⟩:=ab2 (t:=t) hx.ee hB.nb (p:=x.pieces.length);exact⟨h1.trans hB.az,h3.trans hB.hours,h5.trans hB.less,hB.aW,hB.first,h2,h4,h6,hB.l_,hB.h4⟩
theorem PF{x:ak}{deep:Int}{h t:List Int}(ht:t∈iE x deep h):∃ns∈f_ x h,t∈(iD x h ns).map (dC h ns):=by
 have key:t∈((f_ x h).map λns=>(iD x h ns).map λos=>dC h ns os).flatten:=by
  unfold iE at ht;dsimp only at ht;split at ht
  ·exact VS ht
  ·split at ht
   ·obtain⟨l,h1,h2⟩:=XU.1 ht;obtain⟨m,h3,rfl⟩:=Tf.1 h1;exact XU.2 ⟨m,h3,VS h2⟩
   ·exact ht
 obtain⟨l,h1,h2⟩:=XU.1 key;obtain⟨ns,h3,rfl⟩:=Tf.1 h1;exact⟨ns,h3,h2⟩
theorem EC:bR Kn.zero:=by
 have h0:∀k:Nat,∀n∈TO k 0,n<65536:=λk n h=>by rw[(XG.1 h).2];decide
 exact⟨rfl,rfl,rfl,rfl,rfl,h0 4,h0 4,h0 4,h0 3,λh hh=>by cases hh⟩
theorem Li{x:ak}{deep:Int}(hx:x.Ok):∀{ts:List (List Int)}{Q:Kn},(∀t∈ts,jB x t)->bR Q->bR (ts.foldl (eK x deep) Q)
 |[],Q,_,h=>h
 |t::ts,Q,ht,h=>by rw[UV];exact Li hx (λu hu=>ht u (by simp[hu])) (Pw hx (ht t (by simp)) h)
end Tk
theorem zo{K:Kn}{mp m:Nat}(h:mp<m):∀a∈K.l mp,Lt m a:=λa ha=>by
 simp only[Kn.l,SK,SV,Tf]at ha;rcases ha with rfl|rfl|⟨_,_,rfl⟩|⟨_,_,rfl⟩|⟨_,_,rfl⟩|⟨_,_,rfl⟩|⟨_,_,rfl⟩
 ·exact .val _
 ·exact .mp h
 all_goals exact .val _
theorem H7{K:Kn}{mp m:Nat}(h:∀a∈K.l mp,Lt m a):mp<m:=by
 cases h (.mp mp) (by simp[Kn.l]);assumption
def cs:Uc->Uc
 |.seq _ c=>c
 |_=> .skip
def cf:Uc->Uc
 |.seq c _=>c
 |_=> .skip
noncomputable def abR:Uc:=avY.body.getD .skip
def vL (x:ak)(bt:Nat)(deep:Int)(c:Nat)(w:SP):List (Nat×AV):=[(12,.fn (.func 86) [] [.op 2 0,.op 3 0]),(5,.op 1 0),(0,.val w),(1,.rp x.l),(2,.rp [iv bt]),(3,.rp [iv deep]),(4,.rp [.val (.chan (some c))])]
def xk (x:ak)(bt:Nat)(K:Kn):List aa:=[setH K.aL,.cells (K.l 0) 88,.cells x.l 76,.cells [iv bt] 3]
theorem anB{lv:Bool}{x:ak}{bt c:Nat}{w:SP}{deep:Int}{bs:List U8}(hx:x.Ok)(lZ:bt<=3)(hA:∀h∈jW x bt,mM h/\∀ns∈f_ x h,∀a∈(iD x h ns).map (dC h ns),jB x a)(Φ:an->AS->List Nat->Prop)(hΦ:Φ .normal ⟨vL x bt deep c w,xk x bt (gR x deep bt)++[.obj (.deferred (some [])),.gone]⟩ [4]):
  kB lv SA 25 bs (cs (cf (cs (cs abR)))) ⟨vL x bt deep c w,xk x bt Kn.zero⟩ [] Φ:=by
 unfold abR avY;dsimp only[S8,cs,cf];refine yb ?_;refine J5 (by rfl) λl fn T ag bo hT yF qG=> ?_;(try simp only[seval,xk]);simp only[vL,iv]at hT;have bU:x.l=[iv x.first,iv x.hours,iv x.am,c_ x.seen,aN x.pieces,aN x.aC]:=rfl;obtain⟨Gf,uZ⟩:∃Gf:Kn->List aa,∀K,Gf K=[setH K.aL,.cells (K.l 0) 88,.cells x.l 76,.cells [iv bt] 3,.obj (.deferred (some [])),.loop l .ready none fn T 25 #[13] ag bo 4]:=⟨_,λ_=>rfl⟩;have tF:∀K,(Gf K).length=6:=λK=>by rw[uZ];rfl
 have ak6:∀m K K',(∀z∈Gf K,eZ m z)->∀z∈Gf K',eZ m z:=λm K K' hz z fj=>by
  rw[uZ]at hz fj;have h1:=hz (.cells (K.l 0) 88) (by simp);simp only[SK,SZ,or_false]at fj;rcases fj with rfl|rfl|rfl|rfl|rfl|rfl
  ·trivial
  ·exact zo (H7 h1)
  ·exact hz _ (by simp)
  ·exact hz _ (by simp)
  ·exact hz _ (by simp)
  ·exact hz _ (by simp)
 have hY:jQ lv SA (.fn (.yield l) [] []) (λK h=> .go ((iE x deep h).foldl (eK x deep) K)) Gf 6 bR (λh=>mM h/\∀ns∈f_ x h,∀a∈(iD x h ns).map (dC h ns),jB x a) (.aQ []):=by
  refine⟨λK h M k kp hK ha dI=> ?_,λK h K' hK ha he=> ?_,tF,ak6,rfl,rfl,rfl⟩
  ·obtain⟨pK,xh⟩:=ha;have h4:=pK.len;have nM:(h.map iv).length=4:=(by rw[Ta,h4]);obtain⟨Lo,lj⟩:∃Lo,Lo=aa.loop l .busy none fn T 25 #[13] ag bo 4:=⟨_,rfl⟩;obtain⟨P1,dz⟩:∃P1:Kn->List aa,∀K,P1 K=[setH K.aL,.cells (K.l 0) 88,.cells x.l 76,.cells [iv bt] 3,.obj (.deferred (some [])),Lo]++M:=⟨_,λ_=>rfl⟩;have eC:∀K,(P1 K).length=6+M.length:=λK=>(by rw[dz];simp;omega);have pg:∀(K:Kn)(L:List aa)(i:Nat),i<6->(P1 K++L)[i]?=[setH K.aL,aa.cells (K.l 0) 88,.cells x.l 76,.cells [iv bt] 3,.obj (.deferred (some [])),Lo][i]?:=λK L i Mo=>by
    rw[dz,SC,S0 (by simpa using Mo)]
   have pb:∀(K:Kn)(L:List aa)(i:Nat),(P1 K++L)[6+M.length+i]?=L[i]?:=λK L i=>(by rw[<- eC K,aZ]);have xA:∀(K:Kn)(L:List aa),(P1 K++L)[6+M.length]?=L[0]?:=λK L=>pb K L 0;have qe:∀(K:Kn)(L:List aa)(y:aa),(P1 K++L).set (6+M.length+4) y=P1 K++L.set 4 y:=λK L y=>(by rw[<- eC K,dH]);have s5:∀(K:Kn)(L:List aa) y,(P1 K++L).set 5 y=[setH K.aL,.cells (K.l 0) 88,.cells x.l 76,.cells [iv bt] 3,.obj (.deferred (some [])),y]++M++L:=λK L y=>(by rw[dz];rfl);have BJ:∀(K K':Kn)(L L':List aa),L'.length=L.length->(∀q,(∀z∈L,eZ q z)->∀z∈L',eZ q z)->bJ (P1 K++L)->bJ (P1 K'++L'):=λK K' L L' hl hL hH z hz=>by
    have hlen:(P1 K'++L').length=(P1 K++L).length:=(by simp[eC,hl]);rw[hlen];rcases SV.1 hz with h'|h'
    ·rw[dz]at h';rcases SV.1 h' with h'|h'
     ·have h1:=hH (.cells (K.l 0) 88) (by rw[dz];simp);have hq:∀w∈[setH K.aL,aa.cells (K.l 0) 88,.cells x.l 76,.cells [iv bt] 3,.obj (.deferred (some [])),Lo],eZ (P1 K++L).length w:=λw hw=>hH w (by rw[dz,SC];exact Ti _ hw);simp only[SK,SZ,or_false]at h';rcases h' with rfl|rfl|rfl|rfl|rfl|rfl
      ·trivial
      ·exact zo (H7 h1)
      ·exact hq _ (by simp)
      ·exact hq _ (by simp)
      ·exact hq _ (by simp)
      ·exact hq _ (by simp)
     ·exact hH z (by rw[dz];simp[h'])
    ·exact hL _ (λw hw=>hH w (S5 _ hw)) z h'
   simp only[cW]at dI;rw[uZ]at dI;rw[uZ];subst hT yF qG;refine wC (id:=5) (by rfl) rfl (by kernel_rfl) λoI Lv=> ?_;simp only[sR];have wX:TR 4 [iv 0,iv 0,iv 0,iv 0]=[]:=rfl;refine ab ?_;simp only[seval,vL,h4,wX];unfold uG;refine⟨none,fn,_,25,#[13],_,_,_,by rfl,?_⟩;dsimp only;simp only[UK,T9];rw[<- lj];have yA:M.length+1+1+1+1+1+1=6+M.length:=(by omega);rw[yA];have yQ:∀z:aa,(setH K.aL::aa.cells (K.l 0) 88::aa.cells x.l 76::aa.cells [AV.val (SF SD ↑bt)] 3::aa.obj (awd (some []))::Lo::(M++[z]))=P1 K++[z]:=λz=>(by rw[dz];rfl);rw[yQ];refine ab ?_;simp only[seval,bU,xA,h4,nM];rw[SW (i:=4) (l:=h.map iv) (by rw[nM];exact SO _)];refine aK ((KX (x:=x) (h:=h) (deep:=deep) ?_));(try simp only[seval]);refine bP ?_;have oU:∀(K:Kn)(a b c d:aa),(P1 K++[a,b,c,d]).length=6+M.length+4:=λK a b c d=>(by simp[eC]);refine F' 5 (by rfl) (by show (P1 K++_)[5]?=_;rw[pg K _ 5 (by omega),lj];rfl) λl2 eV T2 gF gG oL yG yI=> ?_;simp only[seval];rw[eC]at oL⊢;have yE:jQ lv SA (.fn (.yield l2) [] []) (λK t=> .go (eK x deep K t)) (λK=>P1 K++[.cells (h.map iv) 83,.cells x.l 76,.cells (h.map iv) 83,.cells [iv deep] 3,.loop l2 .ready none eV T2 25 #[18] gF gG 4]) (6+M.length+5) bR (jB x) (.aQ []):=by
    refine⟨λK' t M2 k2 zp LC ht lx=> ?_,λK' t Cr LC ht he=> ?_,λK'=>by simp[eC],λq K' Cr hz z fj=> ?_,rfl,rfl,rfl⟩
    ·have n5:=ht.len;have Bv:(t.map iv).length=11:=(by rw[Ta,n5]);obtain⟨qj,tG⟩:∃Lo,Lo=aa.loop l2 .busy none eV T2 25 #[18] gF gG 4:=⟨_,rfl⟩;obtain⟨Q1,gn⟩:∃Q1:Kn->List aa,∀K,Q1 K=P1 K++([.cells (h.map iv) 83,.cells x.l 76,.cells (h.map iv) 83,.cells [iv deep] 3,qj]++M2):=⟨_,λ_=>rfl⟩;obtain⟨C,hC⟩:∃C,C=6+M.length+5+M2.length:=⟨_,rfl⟩;have LJ:∀K,(Q1 K).length=C:=λK=>(by rw[gn,hC];simp[eC];omega);have mb:∀(K:Kn)(L:List aa),(P1 K++L)[6+M.length+4]?=L[4]?:=λK L=>pb K L 4;have q0:∀(K:Kn)(L:List aa),(Q1 K++L)[0]?=some (setH K.aL):=λK L=>(by rw[gn,SC];exact pg K _ 0 (by omega));have q1:∀(K:Kn)(L:List aa),(Q1 K++L)[1]?=some (.cells (K.l 0) 88):=λK L=>(by rw[gn,SC];exact pg K _ 1 (by omega));have q4:∀(K:Kn)(L:List aa),(Q1 K++L)[6+M.length+4]?=some qj:=λK L=>(by rw[gn,SC,mb];rfl);have qc:∀(K:Kn)(L:List aa),(Q1 K++L)[C]?=L[0]?:=λK L=>(by rw[<- LJ K];exact aZ _ L 0);have O5:∀(K:Kn)(L:List aa)(y:aa),(Q1 K++L).set (6+M.length+4) y=(P1 K++([.cells (h.map iv) 83,.cells x.l 76,.cells (h.map iv) 83,.cells [iv deep] 3,y]++M2))++L:=λK L y=>(by rw[gn,SC,qe];simp);have aq0:∀(K K':Kn)(L:List aa),((Q1 K++L).set 1 (.cells (K'.l 0) 88)).set 0 (setH K'.aL)=Q1 K'++L:=λK K' L=>(by rw[gn,gn,dz,dz];rfl);have fI:∀(Cr:Kn),bJ (P1 K'++([.cells (h.map iv) 83,.cells x.l 76,.cells (h.map iv) 83,.cells [iv deep] 3,.loop l2 .ready none eV T2 25 #[18] gF gG 4]++M2))->bJ (P1 Cr++([.cells (h.map iv) 83,.cells x.l 76,.cells (h.map iv) 83,.cells [iv deep] 3,.loop l2 .ready none eV T2 25 #[18] gF gG 4]++M2)):=λCr iu=>BJ K' Cr _ _ rfl (λq hz=>hz) iu;simp only[cW]at lx;have Md:∀z:aa,P1 K'++(aa.cells (Vj iv h) 83::aa.cells x.l 76::aa.cells (Vj iv h) 83::aa.cells [AV.val (SF SD deep)] 3::qj::(M2++[z]))=Q1 K'++[z]:=λz=>(by rw[gn];simp[iv]);subst oL yG yI;rw[SC];refine wC (id:=6+M.length+4) (by rw[mb];rfl) rfl (by kernel_rfl) λrQ Lw=> ?_;simp only[sR];have DJ:TR 11 [iv 0,iv 0,iv 0,iv 0,iv 0,iv 0,iv 0,iv 0,iv 0,iv 0,iv 0]=[]:=rfl;refine ab ?_;simp only[seval,n5,DJ];unfold uG;refine⟨none,eV,_,25,#[18],_,_,_,by rw[mb];rfl,?_⟩;dsimp only;rw[qe];simp only[UK,T9];rw[<- tG];have Dk:(P1 K').length+(M2.length+1+1+1+1+1)=C:=(by rw[eC,hC];omega);rw[Dk];have iW:∀z:aa,(P1 K'++aa.cells (Vj iv h) 83::aa.cells x.l 76::aa.cells (Vj iv h) 83::aa.cells [AV.val (SF SD deep)] 3::qj::(M2++[z]))=Q1 K'++[z]:=Md;rw[iW];refine ab ?_;simp only[seval,bU,qc,n5,Bv];rw[SW (i:=11) (l:=t.map iv) (by rw[Bv];exact SO _)];refine aK ((aka (x:=x) (t:=t) (deep:=deep) (fp:=1) (mp:=0) (Q:=K') hx ht LC (by decide) (q1 K' _) (q0 K' _) ?_));rw[aq0];(try simp only[seval]);show pu _ _ _ _ _ _ _;refine⟨l2,.busy,none,eV,_,25,#[18],_,_,4,by show (Q1 _++_)[_]?=_;rw[q4,tG],?_⟩;show cH C ((Q1 _++_).set _ _) _ k2;rw[O5];rw[SC]at lx;exact jE (G:=[.cells (t.map iv) 86]) (Wk.refl _) rfl (by rw[hC];simp[eC];omega) (fI _ rQ) (.val _) lx
    ·cases he;exact Pw hx ht LC
    ·rcases SV.1 fj with h'|h'
     ·have h1:=hz (.cells (K'.l 0) 88) (by rw[dz];simp);rw[dz]at h';rcases SV.1 h' with h'|h'
      ·simp only[SK,SZ,or_false]at h';rcases h' with rfl|rfl|rfl|rfl|rfl|rfl
       ·trivial
       ·exact zo (H7 h1)
       all_goals exact hz _ (by rw[dz];simp)
      ·exact hz z (by rw[dz];simp[h'])
     ·exact hz z (S5 _ h')
   refine dc (K1 (x:=x) (h:=h) (deep:=deep) (ir:=6+M.length+1) (ih:=6+M.length+1+1) (id:=6+M.length+1+2) (σ:=K) hx pK yE (λK L=> ?_) (λK L=> ?_) (λK L=> ?_) (λn=>by simp[jM]) hK (λa ha=>ha.len) xh ?_)
   ·rw[SC];exact pb _ _ 1
   ·rw[SC];exact pb _ _ 2
   ·rw[SC];exact pb _ _ 3
   rw[Fc (g:=eK x deep) (λ_ _=>rfl)];simp only[gg,SN];have mb:∀(K:Kn)(L:List aa),(P1 K++L)[6+M.length+4]?=L[4]?:=λK L=>pb K L 4;refine⟨.ready,none,_,_,_,_,_,_,_,by rw[mb];rfl,by decide,?_⟩;rw[qe,IM];(try simp only[seval]);show pu _ _ _ _ _ _ _;have avf:=lj;refine⟨l,.busy,none,fn,_,25,#[13],_,_,4,by show (P1 _++_)[_]?=_;rw[pg _ _ 5 (by omega),lj];rfl,?_⟩;show cH (6+M.length) ((P1 _++_).set _ _) _ k;rw[s5];refine jE (G:=[.cells (h.map iv) 83,.cells x.l 76,.cells (h.map iv) 83,.cells [iv deep] 3,.gone]) (Wk.refl _) rfl (by simp;omega) ?_ (.val _) dI;intro z hz;have h1:=oI (.cells (K.l 0) 88) (by simp);have hlen:∀(y:aa),([setH (ai' (eK x deep) K (iE x deep h)).aL,aa.cells ((ai' (eK x deep) K (iE x deep h)).l 0) 88,.cells x.l 76,.cells [iv bt] 3,.obj (.deferred (some [])),y]++M).length=(setH K.aL::aa.cells (K.l 0) 88::aa.cells x.l 76:: .cells [iv bt] 3:: .obj (.deferred (some []))::y::M).length:=λy=>rfl;rcases SV.1 hz with h'|h'
   ·simp only[SK,SZ,or_false]at h';rcases h' with rfl|rfl|rfl|rfl|rfl|rfl
    ·trivial
    ·exact zo (H7 h1)
    all_goals exact oI _ (by simp)
   ·exact oI z (by simp[h'])
  ·cases he;exact Li hx (λt ht=>by obtain⟨ns,h1,h2⟩:=PF ht;exact ha.2 ns h1 t h2) hK
 have hgo:bK (λK h=>dE.go ((iE x deep h).foldl (eK x deep) K)) (jW x bt) Kn.zero=.go (gR x deep bt):=by
  rw[Fc (g:=λK h=>(iE x deep h).foldl (eK x deep) K) (λ_ _=>rfl),gR,List.foldl_flatMap]
 refine J' (by kernel_rfl) ?_;have e0:=uZ Kn.zero;simp only[iv]at e0;rw[<- e0];refine KZ (lv:=lv) (x:=x) (bt:=bt) (N:=6) (ir:=2) (it:=3) (σ:=Kn.zero) hx hY (λK L=>by rw[uZ];rfl) (λK L=>by rw[uZ];rfl) lZ (λn=>by simp[jM]) EC hA ?_;rw[hgo];simp only[gg,SN];refine⟨.ready,none,_,_,_,_,_,_,_,by rw[uZ];rfl,by decide,?_⟩;rw[uZ,IL];exact hΦ
open Go.Conc
inductive Ht where
 |z
 |s (f:Tq->Ht)
inductive Co:Ht->Ht->Prop where
 |mk (f:Tq->Ht) (w:Tq):Co (f w) (.s f)
theorem am9:WellFounded Co:=by
 refine⟨λh=> ?_⟩;induction h with
 |z=>exact⟨_,λy hy=>by cases hy⟩
 |s f ih=>exact⟨_,λy hy=>by cases hy with|mk _ w=>exact ih w⟩
inductive lL (P:SI):Ht->View->SG->Prop where
 |step {f:Tq->Ht} {V V₁:View} {g:SG} (G':Tq->SG) (W':Tq->Tq) (E':Tq->Array Uu) (V':Tq->View) (hs:g.status=.running) (hg:dY V V₁)
   (h1:∀w,Sat V₁ w->stepG P false g w=.go (G' w) (W' w) (E' w)) (h2:∀w,Sat V₁ w->di V₁ w (V' w) (W' w) (E' w)) (h3:∀w,Sat V₁ w->lL P (f w) (V' w) (G' w)):lL P (.s f) V g
 |send {h:Ht} {V V₁:View} {g:SG} (c Wg:Nat) (sp:Spec) (S:List Spec) (v z:SP) (B:Nat->Bool) (hs:g.status=.running) (hg:dY V V₁) (hr:V₁.role=.work c Wg (sp::S)) (hd:V₁.deaf=0) (ho:g.offers=none)
   (h1:∀w,Sat V₁ w->stepG P false g w=.comm g #[scase c v z] true .send w #[]) (h2:sp v V₁.ah (λb=>if B b then V₁.own b else none))
   (h3:lL P h {V₁ with own:=λb=>if B b then none else V₁.own b,role:=.work c Wg S} (Ua g undef)):lL P (.s λ_=>h) V g
 |done {V V₁:View} {g:SG} (c Wg:Nat) (hg:dY V V₁) (hr:V₁.role=.work c Wg []) (hd:V₁.deaf=0) (h1:FQ P Wg g):lL P (.s λ_=> .z) V g
 |slip {h:Ht} {V V₁:View} {g g':SG} (c Wg:Nat) (hs:g.status=.running) (hg:dY V V₁) (hr:V₁.role=.work c Wg []) (h1:∀w st,Sat V₁ w->WgAt P Wg w st 0->stepG P false g w=.go g' w #[]) (h3:lL P h V₁ g'):lL P (.s λ_=>h) V g
theorem lL.running{P:SI}{h:Ht}{V:View}{g:SG}(k:lL P h V g):g.status=.running:=by
 cases k with
 |step _ _ _ _ hs=>exact hs
 |send _ _ _ _ _ _ _ hs=>exact hs
 |done _ _ _ _ _ h1=>exact h1.1
 |slip _ _ hs=>exact hs
open Classical in
theorem at3(P:SI):z_ P false (λV g=>∃h,lL P h V g)where
 step V g hs h:=by
  have hc:∀w,∃h' g' w' es V',Sat V w->stepG P false g w=.go g' w' es/\di V w V' w' es/\lL P h' V' g':=by
   intro w;by_cases hw:Sat V w
   ·obtain⟨g',w',es,V',h1,h2,h',h3⟩:=h w hw;exact⟨h',g',w',es,V',λ_=>⟨h1,h2,h3⟩⟩
   ·exact⟨.z,g,w,#[],V,λx=>absurd x hw⟩
  have pF:=λw=>(hc w).choose_spec.choose_spec.choose_spec.choose_spec.choose_spec;exact⟨.s λw=>(hc w).choose,.step (λw=>(hc w).choose_spec.choose) (λw=>(hc w).choose_spec.choose_spec.choose) (λw=>(hc w).choose_spec.choose_spec.choose_spec.choose)
   (λw=>(hc w).choose_spec.choose_spec.choose_spec.choose_spec.choose) hs (dY.refl V) (λw hw=>(pF w hw).1) (λw hw=>(pF w hw).2.1) (λw hw=>(pF w hw).2.2)⟩
 ghost V V' g hg h:=by
  obtain⟨h,hk⟩:=h;cases hk with
  |step a b c d e f x y z=>exact⟨_,.step a b c d e (hg.trans f) x y z⟩
  |send a b c d e f m n o p q r s t u=>exact⟨_,.send a b c d e f m n (hg.trans o) p q r s t u⟩
  |done a b o p q r=>exact⟨_,.done a b (hg.trans o) p q r⟩
  |slip a b f o p q r=>exact⟨_,.slip a b f (hg.trans o) p q r⟩
 send V g c Wg sp S v z B h1 h2 h3 h4 h5 h6 h7:=by
  obtain⟨h,hk⟩:=h7;exact⟨_,.send c Wg sp S v z B h3 (dY.refl V) h1 h2 h4 h5 h6 hk⟩
 done V g c Wg h1 h2 h3:=⟨_,.done c Wg (dY.refl V) h1 h2 h3⟩
 slip V g g' c Wg h1 h2 h3 h4:=by
  obtain⟨h,hk⟩:=h4;exact⟨_,.slip c Wg h2 (dY.refl V) h1 h3 hk⟩
structure Aj where
 a:Nat
 h:Ht
 n:Nat
def rC:Aj->Aj->Prop:=λx y=>x.a<y.a\/(x.a=y.a/\(Co x.h y.h\/(x.h=y.h/\x.n<y.n)))
theorem aq5:WellFounded rC:=by
 refine⟨λ⟨a,h,n⟩=> ?_⟩;induction a using Yv generalizing h n with
 |_ a iha=>
  induction h using am9.induction generalizing n with
  |_ h ihh=>
   induction n using Yv with
   |_ n NH=>
    refine⟨_,λ⟨a',h',n'⟩ hlt=> ?_⟩;rcases hlt with x|⟨rfl,x|⟨rfl,x⟩⟩
    ·exact iha a' x h' n'
    ·exact ihh h' x n'
    ·exact NH n' x
def CB (N:Nat)(f' f:Nat->Aj):Prop:=∃i,i<N/\rC (f' i) (f i)/\∀j,j≠i->f' j=f j
theorem ase(N:Nat):WellFounded (CB N):=by
 refine⟨?_⟩;induction N with
 |zero=>intro f;exact⟨_,λf' ⟨i,hi,_⟩=>by omega⟩
 |succ N ih=>
  have key:∀x:Aj,∀f,f N=x->Acc (CB (N+1)) f:=by
   intro x;induction x using aq5.induction with
   |_ x ihx=>
    intro f hf;have inner:∀f,Acc (CB N) f->f N=x->Acc (CB (N+1)) f:=by
     intro f ha;induction ha with
     |intro f _ NG=>
      intro hf;refine⟨_,λf' ⟨i,hi,hlt,ho⟩=> ?_⟩;by_cases fz:i=N
      ·subst fz;exact ihx (f' i) (hf▸hlt) f' rfl
      ·exact NG f' ⟨i,by omega,hlt,ho⟩ ((ho N (Ne.symm fz)).trans hf)
    exact inner f (ih f) hf
  exactλf=>key (f N) f rfl
def Cx (N:Nat)(x y:(Nat->Aj)×Nat):Prop:=CB N x.1 y.1\/(x.1=y.1/\x.2<y.2)
theorem acw(N:Nat):WellFounded (Cx N):=by
 refine⟨λ⟨f,n⟩=> ?_⟩;induction f using(ase N).induction generalizing n with
 |_ f NG=>
  induction n using Yv with
  |_ n NH=>
   refine⟨_,λ⟨f',n'⟩ hlt=> ?_⟩;rcases hlt with x|⟨x,y⟩
   ·exact NG f' x n'
   ·have x':f'=f:=x;subst x';exact NH n' y
open Go.ConcN
structure TI (t:Uq)(B N:Nat)(rd wr:Nat->Loc->Prop)(Sh:Loc->Prop)(act:Nat->Prop)(ic:Nat):Prop where
 nr:∀said,¬Race said t
 low:∀op∈t,op.act.low B
 gs:∀op∈t,op.g<N
 norel:∀op∈t,∀a,op.act≠ .mark (.release a)
 kr:∀i,i<N->∀l,rd i l->PermW t i l
 kw:∀i,i<N->∀l,wr i l->Perm t i l
 sp:∀idx a,touchAt t idx=some a->Sh a.loc->(a.kind=.plain->∀i,act i->Wq t i idx)/\(a.kind=.said->Wq t ic idx)
def Fit (B:Nat)(rd wr:Nat->Loc->Prop)(Sh:Loc->Prop)(act:Nat->Prop)(ic i:Nat)(x:YR):Prop:=
 (Sh x.loc/\x.kind=.atomic/\act i)\/(Sh x.loc/\x.kind=.said/\i=ic/\act i)\/(¬Sh x.loc/\(wr i x.loc\/(rd i x.loc/\x.write=false)\/¬x.loc.low B))
theorem aoD{B:Nat}{m:MemAct}(h:m.low B){x:YR}(hx:m.touch?=some x):x.loc.low B:=by
 cases m with
 |access e=>simp only[Wj,Tm]at hx;subst hx;exact h
 |mark m=>cases m<;>simp[Wj]at hx<;>(subst hx;exact h)
 |_=>simp[Wj]at hx
theorem PD{t:Uq}{B:Nat}(h:∀op∈t,op.act.low B){idx:Nat}{a:YR}(ha:touchAt t idx=some a):a.loc.low B:=by
 obtain⟨x,hx,HR⟩:=U6 ha;exact aoD (h x (X7 hx)) HR
theorem B_{t u:Uq}{idx:Nat}{a:YR}(h:touchAt (t++u) idx=some a):touchAt t idx=some a\/(t.size<=idx/\∃op∈u,(t++u)[idx]?=some op/\op.act.touch?=some a):=by
 obtain⟨x,hx,HR⟩:=U6 h;rcases Xs hx with⟨_,jL⟩|⟨hi,hu⟩
 ·exact .inl (by rw[touchAt_of jL];exact HR)
 ·exact .inr ⟨hi,x,hu,hx,HR⟩
theorem TI.app{t:Uq}{B N B':Nat}{rd wr rd' wr':Nat->Loc->Prop}{Sh:Loc->Prop}{act:Nat->Prop}{ic:Nat}(h:TI t B N rd wr Sh act ic){u:Uq}{i:Nat}(hi:i<N)(hu:∀op∈u,op.g=i)
  (hf:∀op∈u,∀x,op.act.touch?=some x->Fit B rd wr Sh act ic i x) (hl:∀op∈u,op.act.low B') (hB:B<=B') (hn:∀op∈u,∀a,op.act≠ .mark (.release a))
  (M4:∀j l,j≠i->rd' j l->rd j l) (sk:∀j l,j≠i->wr' j l->wr j l) (M5:∀l,rd' i l->l.low B->rd i l\/wr i l) (zk:∀l,wr' i l->l.low B->wr i l)
  (ex:∀l j,j≠i->(wr i l->¬rd j l/\¬wr j l)/\(rd i l->¬wr j l)) (I0:∀l j,Sh l->¬rd j l/\¬wr j l) (ace:∀j l,rd j l\/wr j l->l.low B):
  TI (t++u) B' N rd' wr' Sh act ic where
 nr said:=by
  refine noRace_append (h.nr said) hu λidx a ha op ay b hb hc=> ?_;have bu:=hc;obtain⟨cP,_,MA,oU⟩:=hc;rcases hf op ay b hb with⟨h1,h2,h3⟩|⟨h1,h2,h3,h4⟩|⟨_,h2|⟨h2,h3⟩|h2⟩
  ·rw[h2]at oU;rcases oU with x|x|⟨_,_,x⟩
   ·exact(h.sp idx a ha (cP▸h1)).1 x i h3
   ·cases x
   ·cases x
  ·rw[h2]at oU;rcases oU with x|x|⟨_,x,_⟩
   ·exact(h.sp idx a ha (cP▸h1)).1 x i h4
   ·cases x
   ·rw[h3];exact(h.sp idx a ha (cP▸h1)).2 x
  ·exact h.kw i hi _ h2 idx a ha cP
  ·exact h.kr i hi _ h2 idx a ha cP (by rw[h3]at MA;simpa using MA)
  ·exact absurd (cP▸PD h.low ha) h2
 low op ay:=(Uw.1 ay).elim (λx=>Zv hB (h.low op x)) (hl op)
 gs op ay:=(Uw.1 ay).elim (h.gs op) (λx=>by rw[hu op x];exact hi)
 norel op ay:=(Uw.1 ay).elim (h.norel op) (hn op)
 kr j hj l ua:=by
  by_cases cx:j=i
  ·subst cx;intro idx a ha gK hw;rcases B_ ha with gp|⟨_,op,ay,cY,hx⟩
   ·have iy:l.low B:=gK▸PD h.low gp;rcases M5 l ua iy with x|x
    ·exact(h.kr j hj l x idx a gp gK hw).app u
    ·exact(h.kw j hj l x idx a gp gK).app u
   ·have:=Zp cY;rwa [hu op ay]at this
  ·have Ee:=M4 j l cx ua;refine(h.kr j hj l Ee).app λop ay b hb cO hw=> ?_;exfalso;rcases hf op ay b hb with⟨h1,_⟩|⟨h1,_⟩|⟨_,h2|⟨_,h3⟩|h2⟩
   ·exact(I0 l j (cO▸h1)).1 Ee
   ·exact(I0 l j (cO▸h1)).1 Ee
   ·exact((ex l j cx).1 (cO▸h2)).1 Ee
   ·rw[h3]at hw;cases hw
   ·exact h2 (cO▸ace j l (.inl Ee))
 kw j hj l oc:=by
  by_cases cx:j=i
  ·subst cx;intro idx a ha gK;rcases B_ ha with gp|⟨_,op,ay,cY,hx⟩
   ·exact(h.kw j hj l (zk l oc (gK▸PD h.low gp)) idx a gp gK).app u
   ·have:=Zp cY;rwa [hu op ay]at this
  ·have n_:=sk j l cx oc;refine(h.kw j hj l n_).app λop ay b hb cO=> ?_;exfalso;rcases hf op ay b hb with⟨h1,_⟩|⟨h1,_⟩|⟨_,h2|⟨h2,_⟩|h2⟩
   ·exact(I0 l j (cO▸h1)).2 n_
   ·exact(I0 l j (cO▸h1)).2 n_
   ·exact((ex l j cx).1 (cO▸h2)).2 n_
   ·exact(ex l j cx).2 (cO▸h2) n_
   ·exact h2 (cO▸ace j l (.inr n_))
 sp idx a ha dJ:=by
  rcases B_ ha with gp|⟨_,op,ay,cY,hx⟩
  ·exact⟨λhp j hj=>((h.sp idx a gp dJ).1 hp j hj).app u,λhp=>((h.sp idx a gp dJ).2 hp).app u⟩
  ·rcases hf op ay a hx with⟨_,h2,_⟩|⟨_,h2,h3,_⟩|⟨h1,_⟩
   ·exact⟨λhp=>absurd (h2.symm.trans hp) (by simp),λhp=>absurd (h2.symm.trans hp) (by simp)⟩
   ·refine⟨λhp=>absurd (h2.symm.trans hp) (by simp),λ_=> ?_⟩;have:=Zp cY;rw[hu op ay,h3]at this;exact this
   ·exact absurd dJ h1
theorem TI.weaken{t:Uq}{B N B':Nat}{rd wr rd' wr':Nat->Loc->Prop}{Sh P9:Loc->Prop}{act act':Nat->Prop}{ic kN:Nat}(h:TI t B N rd wr Sh act ic)(hB:B<=B')
  (M4:∀i l,i<N->rd' i l->rd i l\/wr i l) (sk:∀i l,i<N->wr' i l->wr i l)
  (qT:∀idx a,touchAt t idx=some a->P9 a.loc->(a.kind=.plain->∀i,act' i->Wq t i idx)/\(a.kind=.said->Wq t kN idx)):TI t B' N rd' wr' P9 act' kN:=
 ⟨h.nr,λop ay=>Zv hB (h.low op ay),h.gs,h.norel,λi hi l x=>(M4 i l hi x).elim (h.kr i hi l) (λy=>PermW.of (h.kw i hi l y)),λi hi l x=>h.kw i hi l (sk i l hi x),qT⟩
theorem ape{t u:Uq}(h:∀said,¬Race said t)(hn:∀op∈u,op.act.touch?=none):∀said,¬Race said (t++u):=by
 intro said
 rintro⟨i,j,kx,⟨a,b,ha,hb,hc⟩,n1,n2⟩
 have old:∀{k:Nat}{x:YR},((t++u).act? k).bind (·.touch?)=some x->k<t.size/\(t.act? k).bind (·.touch?)=some x:=by
  intro k x hx;obtain⟨y,hy,Ny⟩:=U6 hx;rcases Xs hy with⟨hk,pZ⟩|⟨_,hyu⟩
  ·exact⟨hk,by simp[Trace.act?,pZ,Ny]⟩
  ·rw[hn y hyu]at Ny;cases Ny
 exact h said ⟨i,j,kx,⟨a,b,(old ha).2,(old hb).2,hc⟩,λe=>n1 (hb_app u e),λe=>n2 (hb_app u e)⟩
theorem Ca{t u:Uq}(hn:∀op∈u,op.act.touch?=none){idx:Nat}{a:YR}(h:touchAt (t++u) idx=some a):touchAt t idx=some a:=by
 rcases B_ h with h|⟨_,op,ay,_,hx⟩
 ·exact h
 ·rw[hn op ay]at hx;cases hx
theorem TI.mute{t:Uq}{B N N':Nat}{rd wr rd' wr':Nat->Loc->Prop}{Sh:Loc->Prop}{act act':Nat->Prop}{ic kN:Nat}(h:TI t B N rd wr Sh act ic){u:Uq}(hn:∀op∈u,op.act.touch?=none)(hl:∀op∈u,op.act.low B)(hg:∀op∈u,op.g<N')(hN:N<=N')
  (sd:∀op∈u,∀a,op.act≠ .mark (.release a))
  (kr:∀i,i<N'->∀l,rd' i l->∀idx a,touchAt t idx=some a->a.loc=l->a.write=true->Wq (t++u) i idx) (kw:∀i,i<N'->∀l,wr' i l->∀idx a,touchAt t idx=some a->a.loc=l->Wq (t++u) i idx)
  (sp:∀idx a,touchAt t idx=some a->Sh a.loc->(a.kind=.plain->∀i,act' i->Wq (t++u) i idx)/\(a.kind=.said->Wq (t++u) kN idx)):TI (t++u) B N' rd' wr' Sh act' kN:=
 ⟨ape h.nr hn,λop ay=>(Uw.1 ay).elim (h.low op) (hl op),λop ay=>(Uw.1 ay).elim (λx=>Tg (h.gs op x) hN) (hg op),λop ay=>(Uw.1 ay).elim (h.norel op) (sd op),
  λi hi l x idx a ha=>kr i hi l x idx a (Ca hn ha),λi hi l x idx a ha=>kw i hi l x idx a (Ca hn ha),λidx a ha=>sp idx a (Ca hn ha)⟩
theorem rO{t u:Uq}{k:Nat}{x:Wi}(h:u[k]?=some x):(t++u)[t.size+k]?=some x:=by
 rw[Yh (by omega)];simpa using h
theorem heard_new{t u:Uq}{k g:Nat}{x:Wi}(h:u[k]?=some x)(hx:x.g=g)(hd:(t++u).deaf g (t.size+k)=0):(t++u).heard (t.size+k):=⟨g,by simp[WE,rO h,hx],hd⟩
def still (m:MemAct):Prop:=m≠ .mark .disable/\m≠ .mark .enable
theorem Kl{g d:Nat}{y:Wi}(h:still y.act):deafStep g d y=d:=by
 unfold deafStep;obtain⟨_,_,_,act⟩:=y;cases act with
 |mark m=>cases m<;>first|rfl|exact absurd rfl h.1|exact absurd rfl h.2
 |_=>rfl
theorem uQ{t u:Uq}{g:Nat}(hs:∀op∈u,still op.act):∀{k:Nat},k<=u.size->(t++u).deaf g (t.size+k)=U4 t g:=by
 intro k;induction k with
 |zero=>intro _;exact deaf_old (SO _)
 |succ k ih=>
  intro hk;have hlt:k<u.size:=by omega
  have hy:u[k]?=some u[k]:=SJ hlt;have e:=ah_ (g:=g) (rO (t:=t) hy);rw[show t.size+(k+1)=t.size+k+1 from rfl,e,ih (by omega),Kl (hs _ (X8 hlt))]
theorem Deaf_still{t u:Uq}{g:Nat}(hs:∀op∈u,still op.act):U4 (t++u) g=U4 t g:=by
 have:=uQ (t:=t) (g:=g) hs (SO u.size);unfold U4;rw[XL];exact this
theorem aoT{t u:Uq}{k c s:Nat}{x0 x1 x2 x3:Wi}(hu:u=#[x0,x1,x2,x3]) (h0:x0.g=k/\x0.act=.send c s) (h1:still x1.act) (h2:still x2.act) (h3:x3.g=0/\x3.act=.recvDone c s) (dk:U4 t k=0) (d0:U4 t 0=0) {idx:Nat} (h:Wq t k idx):Wq (t++u) 0 idx:=by
 have hs:∀op∈u,still op.act:=by
  subst hu;intro op ay;simp only[TQ,SK,SZ,or_false]at ay;rcases ay with rfl|rfl|rfl|rfl
  ·rw[h0.2];exact⟨by simp,by simp⟩
  ·exact h1
  ·exact h2
  ·rw[h3.2];exact⟨by simp,by simp⟩
 have e0:u[0]?=some x0:=by subst hu;rfl
 have e3:u[3]?=some x3:=by subst hu;rfl
 have aY:u.size=4:=by subst hu;rfl
 have g0:=rO (t:=t) e0;have g3:=rO (t:=t) e3;have DU:(t++u).heard (t.size+0):=heard_new e0 h0.1 (by rw[uQ hs (by omega)];exact dk);have hh3:(t++u).heard (t.size+3):=heard_new e3 h3.1 (by rw[uQ hs (by omega)];exact d0);have hb:HappensBefore (t++u) idx (t.size+0):=h.hb_new (by omega) g0 h0.1;exact⟨_,x3,g3,h3.1,.inr (hb.trans (.single (.inr ⟨.handOver (c:=c) (k:=s) (by rw[am_ g0,h0.2]) (by rw[am_ g3,h3.2]),DU,hh3⟩)))⟩
theorem af3{t:Uq}{a:Vf}{r q i:Nat}{y:Wi}(hr:t.act? r=some (.mark (.releaseMerge a)))(hh:t.heard r)(hn:∀op∈t,∀a,op.act≠ .mark (.release a))(hy:y.g=q/\y.act=.mark (.acquire a))(hd:U4 t q=0)(hb:Before t i r):Wq (t++#[y]) q i:=by
 have e:(#[y]:Uq)[0]?=some y:=rfl;have g:=rO (t:=t) e;have ua:=Wh hr;have aP:∀op∈(#[y]:Uq),still op.act:=by
  intro op ay;simp only[TQ,SK,SZ,or_false]at ay;subst ay;rw[hy.2];exact⟨by simp,by simp⟩
 have Mn:(t++#[y]).heard (t.size+0):=heard_new e hy.1 (by rw[uQ aP (by simp)];exact hd);refine⟨_,y,g,hy.1,.inr ((hb.app #[y]).hb (.single (.inr ⟨.marked (a:=a) (by omega) (.inr (by rw[Yg ua];exact hr)) (by rw[am_ g,hy.2]) (λk iK cI e'=> ?_),(Wu ua).2 hh,Mn⟩)))⟩;obtain⟨op,ho,hoa⟩:=Ts.1 e';rcases Xs ho with⟨_,bm⟩|⟨hk,_⟩
 ·exact hn op (X7 bm) a hoa
 ·omega
theorem ahS{t:Uq}{c p q i:Nat}{y:Wi}(hp:t.act? p=some (.close c))(hh:t.heard p)(hy:y.g=q/\y.act=.recvClosed c)(hd:U4 t q=0)(hb:Before t i p):Wq (t++#[y]) q i:=by
 have e:(#[y]:Uq)[0]?=some y:=rfl;have g:=rO (t:=t) e;have cL:=Wh hp;have aP:∀op∈(#[y]:Uq),still op.act:=by
  intro op ay;simp only[TQ,SK,SZ,or_false]at ay;subst ay;rw[hy.2];exact⟨by simp,by simp⟩
 have Mn:(t++#[y]).heard (t.size+0):=heard_new e hy.1 (by rw[uQ aP (by simp)];exact hd);exact⟨_,y,g,hy.1,.inr ((hb.app #[y]).hb (.single (.inr ⟨.closed (c:=c) (by rw[Yg cL];exact hp) (by rw[am_ g,hy.2]),(Wu cL).2 hh,Mn⟩)))⟩
def jO (U V:View):Prop:=∀b,U.own b≠none->V.own b=none/\∀o,V.ah b o≠none->U.ah b o≠none
def gT (V:View):Loc->Prop
 |.cell a=>V.own a.block≠none\/V.ah a.block a.off≠none
 |.obj r=>V.own r≠none
 |_=>False
def jP (V:View):Loc->Prop
 |.cell a=>V.own a.block≠none/\V.ah a.block a.off=none
 |.obj r=>V.own r≠none
 |_=>False
theorem jP.rd{V:View}:∀{l:Loc},jP V l->gT V l
 |.cell _,h=> .inl h.1
 |.obj _,h=>h
theorem di.others{V V' U:View}{w w':Tq}{es:Array Uu}(s:di V w V' w' es)(hV:Sat V w)(h:Sat U w)(d:jO V U):Sat U w':=by
 refine⟨λb o v e=> ?_,λb x e=> ?_⟩
 ·have hc:=h.ah b o v e;have hb:=h.Ey e;cases ho:V.own b with
  |none=>
   have:=s.frame b hb ho;simp only[UC,this]at hc⊢;exact hc
  |some x=>
   have hp:=(d b (by rw[ho];simp)).2 o (by rw[e];simp);cases hi:V.ah b o with
   |none=>exact absurd hi hp
   |some v'=>
    have e1:=hV.ah b o v' hi;rw[hc]at e1;cases e1;exact s.sat.ah b o v (s.ah b o v hi)
 ·have hb:=h.lt e;have ho:V.own b=none:=by
   cases ho:V.own b with
   |none=>rfl
   |some y=>rw[(d b (by rw[ho];simp)).1]at e;cases e
  rw[s.frame b hb ho];exact h.own b x e
theorem di.wF{V V' U:View}{w w':Tq}{es:Array Uu}(s:di V w V' w' es)(h:Sat U w)(d:jO V U)(d':jO U V):jO V' U/\jO U V':=by
 have key:∀b,V'.own b≠none->V.own b≠none\/w.heap.size<=b:=by
  intro b hb;by_cases hlt:b<w.heap.size
  ·exact .inl λe=>hb (s.own b hlt e)
  ·exact .inr (by omega)
 refine⟨λb hb=> ?_,λb hb=> ?_⟩
 ·rcases key b hb with x|x
  ·refine⟨(d b x).1,λo ho=> ?_⟩;have:=(d b x).2 o ho;cases e:V.ah b o with
   |none=>exact absurd e this
   |some v=>rw[s.ah b o v e];simp
  ·have:=h.fresh x;exact⟨this.1,λo ho=>absurd (this.2 o) ho⟩
 ·have hlt:b<w.heap.size:=by
   cases e:U.own b with
   |none=>exact absurd e hb
   |some x=>exact h.lt e
  refine⟨?_,λo ho=> ?_⟩
  ·exact s.own b hlt (d' b hb).1
  ·cases e:V'.ah b o with
   |none=>exact absurd e ho
   |some v=>
    rcases s.kP b o v e with x|x|x
    ·exact(d' b hb).2 o (by rw[x];simp)
    ·exact absurd (d' b hb).1 x
    ·omega
theorem dY.wF{V V' U:View}(g:dY V V')(d:jO V U)(d':jO U V):jO V' U/\jO U V':=by
 refine⟨λb hb=> ?_,λb hb=>⟨g.own b (d' b hb).1,λo ho=> ?_⟩⟩
 ·have x:V.own b≠none:=λe=>hb (g.own b e);refine⟨(d b x).1,λo ho=> ?_⟩;cases e:V.ah b o with
  |none=>exact absurd e ((d b x).2 o ho)
  |some v=>rw[g.ah b o v e];simp
 ·cases e:V'.ah b o with
  |none=>exact absurd e ho
  |some v=>
   rcases g.kP b o v e with x|x
   ·exact(d' b hb).2 o (by rw[x];simp)
   ·exact absurd (d' b hb).1 x
theorem dY.rd{V V':View}(g:dY V V'):∀{l:Loc},gT V' l->gT V l
 |.cell a,h=>by
  rcases h with h|h
  ·exact .inl λe=>h (g.own _ e)
  ·cases e:V'.ah a.block a.off with
   |none=>exact absurd e h
   |some v=>exact(g.kP _ _ _ e).elim (λx=> .inr (by rw[x];simp)) .inl
 |.obj _,h=>λe=>h (g.own _ e)
theorem dY.wr{V V':View}(g:dY V V'):∀{l:Loc},jP V' l->jP V l
 |.cell a,h=>⟨λe=>h.1 (g.own _ e),by
  cases e:V.ah a.block a.off with
  |none=>rfl
  |some v=>exact absurd (g.ah _ _ _ e) (by rw[h.2];simp)⟩
 |.obj _,h=>λe=>h (g.own _ e)
theorem gT.low{V:View}{w:Tq}(h:Sat V w):∀{l:Loc},gT V l->l.low w.heap.size
 |.cell a,x=>by
  rcases x with x|x
  ·cases e:V.own a.block with
   |none=>exact absurd e x
   |some y=>exact h.lt e
  ·cases e:V.ah a.block a.off with
   |none=>exact absurd e x
   |some y=>exact h.Ey e
 |.obj r,x=>by
  cases e:V.own r with
  |none=>exact absurd e x
  |some y=>exact h.lt e
theorem di.rd{V V':View}{w w':Tq}{es:Array Uu}(s:di V w V' w' es):∀{l:Loc},gT V' l->l.low w.heap.size->gT V l
 |.cell a,h,hl=>by
  have eO:a.block<w.heap.size:=hl;rcases h with h|h
  ·exact .inl λe=>h (s.own _ eO e)
  ·cases e:V'.ah a.block a.off with
   |none=>exact absurd e h
   |some v=>
    rcases s.kP _ _ _ e with x|x|x
    ·exact .inr (by rw[x];simp)
    ·exact .inl x
    ·omega
 |.obj r,h,hl=>λe=>h (s.own _ hl e)
theorem di.wr{V V':View}{w w':Tq}{es:Array Uu}(s:di V w V' w' es):∀{l:Loc},jP V' l->l.low w.heap.size->jP V l
 |.cell a,h,hl=>⟨λe=>h.1 (s.own _ hl e),by
  cases e:V.ah a.block a.off with
  |none=>rfl
  |some v=>exact absurd (s.ah _ _ _ e) (by rw[h.2];simp)⟩
 |.obj r,h,hl=>λe=>h (s.own _ hl e)
theorem aie{U V:View}(d:jO U V)(d':jO V U)(l:Loc):(jP U l->¬gT V l/\¬jP V l)/\(gT U l->¬jP V l):=by
 cases l with
 |cell a=>
  refine⟨λh=> ?_,λh=> ?_⟩
  ·have:=d _ h.1;refine⟨λx=> ?_,λx=>x.1 this.1⟩;rcases x with x|x
   ·exact x this.1
   ·exact this.2 _ x h.2
  ·intro x;have:=d' _ x.1;rcases h with h|h
   ·exact h this.1
   ·exact this.2 _ h x.2
 |obj r=>exact⟨λh=>⟨λx=>x (d r h).1,λx=>x (d r h).1⟩,λh x=>h (d' r x).1⟩
 |_=>exact⟨λh=>h.elim,λh=>h.elim⟩
def rE (c Wg:Nat):Loc->Prop
 |.cell a=>a.block=Wg
 |.obj r=>r=c
 |_=>False
structure Core (VV:Nat->View)(N:Nat)(w:Tq)(t:Uq)(Sh:Loc->Prop)(act:Nat->Prop)(ic n0:Nat)(W0:Tq):Prop where
 sat:∀i,i<N->Sat (VV i) w
 dP:∀i j,i<N->j<N->i≠j->jO (VV i) (VV j)
 ti:TI t w.heap.size N (λi l=>i<N/\gT (VV i) l/\¬Sh l) (λi l=>i<N/\jP (VV i) l/\¬Sh l) Sh act ic
 tape:w.tape=W0.tape
 os:w.os=W0.os
 out:w.output=W0.output
 old:∀b,b<n0->w.heap[b]?=W0.heap[b]?
 ju:∀i,i<N->∀b,b<n0->(VV i).own b=none
 n0:n0<=w.heap.size
def upd {α:Type}(f:Nat->α)(i:Nat)(x:α):Nat->α:=λj=>if j=i then x else f j
theorem bB{α:Type}(f:Nat->α)(i:Nat)(x:α):upd f i x i=x:=by simp[upd]
theorem bf{α:Type}(f:Nat->α){i j:Nat}(x:α)(h:j≠i):upd f i x j=f j:=by simp[upd,h]
section
variable {VV:Nat->View}{N:Nat}{w w':Tq}{t:Uq}{Sh:Loc->Prop}{act:Nat->Prop}{ic n0 i:Nat}{W0:Tq}
theorem Core.draw(h:Core VV N w t Sh act ic n0 W0)(d:Nat):Core VV N (w.at d) t Sh act ic n0 W0:=
 ⟨λi hi=>⟨(h.sat i hi).ah,(h.sat i hi).own⟩,h.dP,h.ti,h.tape,h.os,h.out,h.old,h.ju,h.n0⟩
theorem KL{V:View}{B:Nat}{e:Uu}(he:nh V B e){x:YR}(hx:(Tt e).touch?=some x):(jP V x.loc\/(gT V x.loc/\x.write=false)\/¬x.loc.low B)/\
  (∀c,V.role.chan=some c->x.loc≠ .obj c)/\(∀Wg a,V.role.group=some Wg->x.loc=.cell a->a.block=Wg->x.kind≠ .plain):=by
 obtain⟨l,wr,s⟩:=e;cases l with
 |cell a=>
  simp only[ats,Wj,Tm]at hx;subst hx;cases wr with
  |false=>
   refine⟨?_,λc _=>by simp,λWg a' hr ha hb=> ?_⟩
   ·rcases he.1 with h|h|h
    ·exact .inr (.inr (by show ¬a.block<B;omega))
    ·exact .inr (.inl ⟨.inl h,rfl⟩)
    ·exact .inr (.inl ⟨.inr h,rfl⟩)
   ·cases ha;rcases he.2 with h|h
    ·subst h;simp
    ·subst hb;exact absurd hr h
  |true=>
   refine⟨?_,λc _=>by simp,λWg a' hr ha hb=> ?_⟩
   ·rcases he.1 with h|h
    ·exact .inr (.inr (by show ¬a.block<B;omega))
    ·exact .inl h
   ·cases ha;rcases he.2 with h|h
    ·subst h;simp
    ·subst hb;exact absurd hr h
 |obj r=>
  obtain⟨⟨rfl,h2⟩,h3⟩:=he;have e1:Tt ⟨.obj r,wr,false⟩=.access ⟨.obj r,wr,false⟩:=by cases wr<;>rfl
  rw[e1]at hx;simp only[Wj,Tm]at hx;subst hx;refine⟨?_,λc hc e=> ?_,λWg a _ ha=>by cases ha⟩
  ·rcases h2 with h|h
   ·exact .inr (.inr (by show ¬r<B;omega))
   ·exact .inl h
  ·cases e;exact h3 hc
 |mark m=>
  have e1:Tt ⟨.mark m,wr,s⟩=.mark m:=by cases wr<;>cases s<;>rfl
  rw[e1]at hx;cases m<;>simp only[Wj,Tm,reduceCtorEq]at hx
  all_goals
   subst hx;refine⟨?_,λc _=>by simp,λWg a' _ _ _=>by simp⟩;have ku:mO V B _:=he;rcases ku with h|h
   ·exact .inr (.inr (by simp only[Loc.low];omega))
   ·exact .inl h
 |_=>exact he.elim
theorem Core.RU(h:Core VV N w t Sh act ic n0 W0)(l:Loc){i j:Nat}(hi:i<N)(hj:j≠i):
  ((i<N/\jP (VV i) l/\¬Sh l)->¬(j<N/\gT (VV j) l/\¬Sh l)/\¬(j<N/\jP (VV j) l/\¬Sh l))/\((i<N/\gT (VV i) l/\¬Sh l)->¬(j<N/\jP (VV j) l/\¬Sh l)):=by
 by_cases DW:j<N
 ·have:=aie (h.dP i j hi DW (Ne.symm hj)) (h.dP j i DW hi hj) l;exact⟨λ⟨_,x,_⟩=>⟨λ⟨_,y,_⟩=>(this.1 x).1 y,λ⟨_,y,_⟩=>(this.1 x).2 y⟩,λ⟨_,x,_⟩ ⟨_,y,_⟩=>this.2 x y⟩
 ·exact⟨λ_=>⟨λ⟨y,_⟩=>DW y,λ⟨y,_⟩=>DW y⟩,λ_ ⟨y,_⟩=>DW y⟩
theorem Core.step(h:Core VV N w t Sh act ic n0 W0)(hi:i<N){V':View}{es:Array Uu}(s:di (VV i) w V' w' es)
  (dJ:∀e∈es,∀x,(Tt e).touch?=some x->Sh x.loc->(x.kind=.atomic/\act i)\/(x.kind=.said/\i=ic/\act i)) (fn:TY) (pos:String):
  Core (upd VV i V') N w' (t++Tc i fn pos es) Sh act ic n0 W0 where
 sat j hj:=by
  by_cases cx:j=i
  ·subst cx;rw[bB];exact s.sat
  ·rw[bf _ _ cx];exact s.others (h.sat i hi) (h.sat j hj) (h.dP i j hi hj (Ne.symm cx))
 dP a b ha hb gJ:=by
  by_cases nO:a=i
  ·subst nO;have wQ:b≠a:=Ne.symm gJ;rw[bB,bf _ _ wQ];exact(s.wF (h.sat b hb) (h.dP a b ha hb gJ) (h.dP b a hb ha wQ)).1
  ·by_cases eD:b=i
   ·subst eD;rw[bB,bf _ _ nO];exact(s.wF (h.sat a ha) (h.dP b a hb ha (Ne.symm gJ)) (h.dP a b ha hb gJ)).2
   ·rw[bf _ _ nO,bf _ _ eD];exact h.dP a b ha hb gJ
 ti:=by
  refine h.ti.app hi (λop ay=>by obtain⟨e,_,rfl⟩:=TU ay;rfl) (λop ay x hx=> ?_) (λop ay=>by obtain⟨e,he,rfl⟩:=TU ay;exact s.low e he) s.size (λop ay a=> ?_)
   (λj l hj ⟨x,y⟩=>by rw[bf _ _ hj]at y;exact⟨x,y⟩) (λj l hj ⟨x,y⟩=>by rw[bf _ _ hj]at y;exact⟨x,y⟩)
   (λl ⟨x,y,z⟩ hl=>by rw[bB]at y;exact .inl ⟨x,s.rd y hl,z⟩) (λl ⟨x,y,z⟩ hl=>by rw[bB]at y;exact⟨x,s.wr y hl,z⟩)
   (λl j hj=>h.RU l hi hj) (λl j hs=>⟨λx=>x.2.2 hs,λx=>x.2.2 hs⟩) (λj l x=>x.elim (λy=>gT.low (h.sat j y.1) y.2.1) (λy=>gT.low (h.sat j y.1) y.2.1.rd))
  ·obtain⟨e,he,rfl⟩:=TU ay;by_cases hs:Sh x.loc
   ·rcases dJ e he x hx hs with⟨a,b⟩|⟨a,b,c⟩
    ·exact .inl ⟨hs,a,b⟩
    ·exact .inr (.inl ⟨hs,a,b,c⟩)
   ·refine .inr (.inr ⟨hs,?_⟩);rcases(KL (s.fq e he) hx).1 with x'|⟨x',y⟩|x'
    ·exact .inl ⟨hi,x',hs⟩
    ·exact .inr (.inl ⟨⟨hi,x',hs⟩,y⟩)
    ·exact .inr (.inr x')
  ·obtain⟨e,he,rfl⟩:=TU ay;intro e';have hk:=s.fq e he;obtain⟨l,wr,sy⟩:=e;cases l with
   |mark m=>
    have e1:Tt ⟨.mark m,wr,sy⟩=.mark m:=(by cases wr<;>cases sy<;>rfl);simp only[e1,apH]at e';subst e';exact hk
   |cell a'=>simp[ats]at e'
   |obj r=>cases wr<;>cases sy<;>simp[Tt]at e'
   |_=>exact hk
 tape:=s.tape.trans h.tape
 os:=s.os.trans h.os
 out:=s.output.trans h.out
 old b hb:=(s.frame b (Tg hb h.n0) (h.ju i hi b hb)).trans (h.old b hb)
 ju j hj b hb:=by
  by_cases cx:j=i
  ·subst cx;rw[bB];exact s.own b (Tg hb h.n0) (h.ju j hj b hb)
  ·rw[bf _ _ cx];exact h.ju j hj b hb
 n0:=TL h.n0 s.size
theorem Core.ghost(h:Core VV N w t Sh act ic n0 W0)(hi:i<N){V':View}(g:dY (VV i) V'):Core (upd VV i V') N w t Sh act ic n0 W0 where
 sat j hj:=by
  by_cases cx:j=i
  ·subst cx;rw[bB];exact g.sat _ (h.sat j hj)
  ·rw[bf _ _ cx];exact h.sat j hj
 dP a b ha hb gJ:=by
  by_cases nO:a=i
  ·subst nO;have wQ:b≠a:=Ne.symm gJ;rw[bB,bf _ _ wQ];exact(g.wF (h.dP a b ha hb gJ) (h.dP b a hb ha wQ)).1
  ·by_cases eD:b=i
   ·subst eD;rw[bB,bf _ _ nO];exact(g.wF (h.dP b a hb ha (Ne.symm gJ)) (h.dP a b ha hb gJ)).2
   ·rw[bf _ _ nO,bf _ _ eD];exact h.dP a b ha hb gJ
 ti:=h.ti.weaken (SO _) (λj l _ ⟨x,y,z⟩=>by
   by_cases cx:j=i
   ·subst cx;rw[bB]at y;exact .inl ⟨x,g.rd y,z⟩
   ·rw[bf _ _ cx]at y;exact .inl ⟨x,y,z⟩) (λj l _ ⟨x,y,z⟩=>by
   by_cases cx:j=i
   ·subst cx;rw[bB]at y;exact⟨x,g.wr y,z⟩
   ·rw[bf _ _ cx]at y;exact⟨x,y,z⟩) h.ti.sp
 tape:=h.tape
 os:=h.os
 out:=h.out
 old:=h.old
 ju j hj b hb:=by
  by_cases cx:j=i
  ·subst cx;rw[bB];exact g.own b (h.ju j hj b hb)
  ·rw[bf _ _ cx];exact h.ju j hj b hb
 n0:=h.n0
def mN (V' V:View):Prop:=(∀b,V'.own b=none\/V'.own b=V.own b)/\(∀b o,V'.ah b o=none\/V'.ah b o=V.ah b o)/\(∀b,V'.own b≠none->∀o,V'.ah b o=V.ah b o)
theorem mN.sat{V V':View}(l:mN V' V){w:Tq}(h:Sat V w):Sat V' w:=
 ⟨λb o v e=>h.ah b o v (by rcases l.2.1 b o with x|x<;>rw[x]at e;cases e;exact e),λb x e=>h.own b x (by rcases l.1 b with y|y<;>rw[y]at e;cases e;exact e)⟩
theorem mN.rd{V V':View}(k:mN V' V):∀{l:Loc},gT V' l->gT V l
 |.cell a,h=>h.imp (λx y=>by rcases k.1 a.block with z|z;exact x z;exact x (z.trans y)) (λx y=>by rcases k.2.1 a.block a.off with z|z;exact x z;exact x (z.trans y))
 |.obj r,h=>λy=>by rcases k.1 r with z|z;exact h z;exact h (z.trans y)
theorem mN.wr{V V':View}(k:mN V' V):∀{l:Loc},jP V' l->jP V l
 |.cell a,h=>⟨λy=>by rcases k.1 a.block with z|z;exact h.1 z;exact h.1 (z.trans y),by rw[<- k.2.2 _ h.1];exact h.2⟩
 |.obj r,h=>λy=>by rcases k.1 r with z|z;exact h z;exact h (z.trans y)
theorem mN.wF{V V' U:View}(k:mN V' V)(d:jO V U)(d':jO U V):jO V' U/\jO U V':=by
 refine⟨λb hb=> ?_,λb hb=>⟨?_,λo ho=> ?_⟩⟩
 ·have x:V.own b≠none:=λy=>by rcases k.1 b with z|z;exact hb z;exact hb (z.trans y)
  exact⟨(d b x).1,λo ho=>by rw[k.2.2 b hb];exact(d b x).2 o ho⟩
 ·rcases k.1 b with z|z;exact z;exact z.trans (d' b hb).1
 ·exact(d' b hb).2 o λy=>by rcases k.2.1 b o with z|z;exact ho z;exact ho (z.trans y)
theorem Core.less(h:Core VV N w t Sh act ic n0 W0)(hi:i<N){V':View}(k:mN V' (VV i)):Core (upd VV i V') N w t Sh act ic n0 W0 where
 sat j hj:=by
  by_cases cx:j=i
  ·subst cx;rw[bB];exact k.sat (h.sat j hj)
  ·rw[bf _ _ cx];exact h.sat j hj
 dP a b ha hb gJ:=by
  by_cases nO:a=i
  ·subst nO;have wQ:b≠a:=Ne.symm gJ;rw[bB,bf _ _ wQ];exact(k.wF (h.dP a b ha hb gJ) (h.dP b a hb ha wQ)).1
  ·by_cases eD:b=i
   ·subst eD;rw[bB,bf _ _ nO];exact(k.wF (h.dP b a hb ha (Ne.symm gJ)) (h.dP a b ha hb gJ)).2
   ·rw[bf _ _ nO,bf _ _ eD];exact h.dP a b ha hb gJ
 ti:=h.ti.weaken (SO _) (λj l _ ⟨x,y,z⟩=>by
   by_cases cx:j=i
   ·subst cx;rw[bB]at y;exact .inl ⟨x,k.rd y,z⟩
   ·rw[bf _ _ cx]at y;exact .inl ⟨x,y,z⟩) (λj l _ ⟨x,y,z⟩=>by
   by_cases cx:j=i
   ·subst cx;rw[bB]at y;exact⟨x,k.wr y,z⟩
   ·rw[bf _ _ cx]at y;exact⟨x,y,z⟩) h.ti.sp
 tape:=h.tape
 os:=h.os
 out:=h.out
 old:=h.old
 ju j hj b hb:=by
  by_cases cx:j=i
  ·subst cx;rw[bB];rcases k.1 b with z|z;exact z;exact z.trans (h.ju j hj b hb)
  ·rw[bf _ _ cx];exact h.ju j hj b hb
 n0:=h.n0
theorem Core.us(h:Core VV N w t Sh act ic n0 W0)(hi:i<N){es:Array Uu}(cm:∀e∈es,∀x,(Tt e).touch?=some x->Fit w.heap.size (λi l=>i<N/\gT (VV i) l/\¬Sh l) (λi l=>i<N/\jP (VV i) l/\¬Sh l) Sh act ic i x)
  (iy:∀e∈es,(Tt e).low w.heap.size) (sd:∀e∈es,∀a,Tt e≠ .mark (.release a)) (SB:Nat->Prop) (pS:∀b,SB b->n0<=b/\∀j,j<N->(VV j).own b=none/\∀o,(VV j).ah b o=none)
  (aY:w'.heap.size=w.heap.size) (gL:∀b,¬SB b->w'.heap[b]?=w.heap[b]?) (ht:w'.tape=w.tape) (ho:w'.os=w.os) (hu:w'.output=w.output) (fn:TY) (pos:String):
  Core VV N w' (t++Tc i fn pos es) Sh act ic n0 W0 where
 sat j hj:=by
  have hs:=h.sat j hj;refine⟨λb o v e=> ?_,λb x e=> ?_⟩
  ·have hb:¬SB b:=λx=>(by rw[((pS b x).2 j hj).2 o]at e;cases e);have:=hs.ah b o v e;simp only[UC,gL b hb];exact this
  ·have hb:¬SB b:=λy=>(by rw[((pS b y).2 j hj).1]at e;cases e);rw[gL b hb];exact hs.own b x e
 dP:=h.dP
 ti:=by
  rw[aY];refine h.ti.app hi (λop ay=>by obtain⟨e,_,rfl⟩:=TU ay;rfl) (λop ay x hx=>by obtain⟨e,he,rfl⟩:=TU ay;exact cm e he x hx) (λop ay=>by obtain⟨e,he,rfl⟩:=TU ay;exact iy e he) (SO _) (λop ay a=>by obtain⟨e,he,rfl⟩:=TU ay;exact sd e he a)
   (λj l _ x=>x) (λj l _ x=>x) (λl x _=> .inl x) (λl x _=>x) (λl j hj=>h.RU l hi hj) (λl j hs=>⟨λx=>x.2.2 hs,λx=>x.2.2 hs⟩) (λj l x=>x.elim (λy=>gT.low (h.sat j y.1) y.2.1) (λy=>gT.low (h.sat j y.1) y.2.1.rd))
 tape:=ht.trans h.tape
 os:=ho.trans h.os
 out:=hu.trans h.out
 old b hb:=(gL b (λx=>by have:=(pS b x).1;omega)).trans (h.old b hb)
 ju:=h.ju
 n0:=by rw[aY];exact h.n0
theorem Core.quiet(h:Core VV N w t Sh act ic n0 W0)(hi:i<N){es:Array Uu}(A8:∀e∈es,(Tt e).touch?=none/\(Tt e).low w.heap.size/\∀a,Tt e≠ .mark (.release a))(fn:TY)(pos:String):
  Core VV N w (t++Tc i fn pos es) Sh act ic n0 W0:=
 h.us hi (λe he x hx=>by rw[(A8 e he).1]at hx;cases hx) (λe he=>(A8 e he).2.1) (λe he=>(A8 e he).2.2) (λ_=>False) (λb x=>x.elim) rfl (λ_ _=>rfl) rfl rfl rfl fn pos
theorem Core.role(h:Core VV N w t Sh act ic n0 W0)(hi:i<N){V':View}(h1:V'.ah=(VV i).ah)(h2:V'.own=(VV i).own):Core (upd VV i V') N w t Sh act ic n0 W0:=
 h.less hi ⟨λb=> .inr (by rw[h2]),λb o=> .inr (by rw[h1]),λb _ o=>by rw[h1]⟩
end
inductive GS where
 |gone (q:Nat)
 |work (j:Nat) (h:Ht) (V:View)
 |oq (j:Nat) (h:Ht) (V V':View) (g0:SG) (v z:SP)
 |add (n:Nat)
 |load (n:Nat)
 |store (n:Nat)
 |mI (n:Nat)
 |head (k n:Nat)
 |ml (v n:Nat)
 |said (n:Nat)
 |iq (n:Nat)
 |last (n:Nat)
 |acq (n:Nat)
 |look (n:Nat)
 |close (n:Nat)
def noView:View:={ah:=λ_ _=>none,own:=λ_=>none,deaf:=0,role:=.plain}
def GS.view (Im:cC):GS->View
 |.work _ _ V=>V
 |.oq _ _ V _ _ _ _=>V
 |.head .. |.ml .. |.said _|.iq _|.last _|.acq _|.look _=>{noView with ah:=Im}
 |_=>noView
def GS.cnt:GS->Nat
 |.work .. |.oq .. |.add _=>1
 |_=>0
def GS.late:GS->Nat
 |.load _|.store _|.mI _=>1
 |_=>0
def GS.idx:GS->Option Nat
 |.work j _ _=>some j
 |.oq j _ _ _ _ _ _=>some j
 |_=>none
def GS.shape:GS->GS
 |.gone _=> .gone 0
 |.work j _ _=> .work j .z noView
 |.oq j _ _ _ _ _ _=> .work j .z noView
 |.add _=> .add 0
 |.load _=> .load 0
 |.store _=> .store 0
 |.mI _=> .mI 0
 |.head k _=> .head k 0
 |.ml v _=> .ml v 0
 |.said _=> .said 0
 |.iq _=> .iq 0
 |.last _=> .last 0
 |.acq _=> .acq 0
 |.look _=> .look 0
 |.close _=> .close 0
theorem GS.nH:∀K:GS,K.shape.cnt=K.cnt:=by intro K;cases K<;>rfl
theorem GS.mD:∀K:GS,K.shape.late=K.late:=by intro K;cases K<;>rfl
theorem GS.HY:∀K:GS,K.shape.idx=K.idx:=by intro K;cases K<;>rfl
def GS.nG:GS->Bool
 |.head .. |.ml .. |.said _|.iq _|.last _|.acq _|.look _|.close _=>true
 |_=>false
theorem GS.Q7:∀K:GS,K.shape.nG=K.nG:=by intro K;cases K<;>rfl
def GS.c9:GS->Aj
 |.gone q=>⟨0,.z,q⟩
 |.work _ h V=>⟨11+2* (match V.role with|.work _ _ S=>S.length|_=>0),h,0⟩
 |.oq _ h V _ _ _ _=>⟨10+2* (match V.role with|.work _ _ S=>S.length|_=>0),h,0⟩
 |.add n=>⟨8,.z,n⟩
 |.load n=>⟨7,.z,n⟩
 |.store n=>⟨6,.z,n⟩
 |.mI n=>⟨5,.z,n⟩
 |.head k n=>⟨100+3* k,.z,n⟩
 |.ml v n=>⟨102+3* v,.z,n⟩
 |.said n=>⟨60,.z,n⟩
 |.iq n=>⟨50,.z,n⟩
 |.last n=>⟨40,.z,n⟩
 |.acq n=>⟨30,.z,n⟩
 |.look n=>⟨20,.z,n⟩
 |.close n=>⟨15,.z,n⟩
section
variable (P:SI)(c Wg:Nat)(Im:cC)(Ss:List (List Spec))
def FF (v d:Nat)(g:SG):Prop:=d=1/\g.status=.running/\
 (∃g',(∀w,WgAt P Wg w ((v:Int)* KK) 0->stepG P false g w=.go g' (w.setCell (ec Wg) (.int .u64 ((v:Int)* KK+1))) #[jh (ec Wg),lg (ec Wg)])/\∃n,im P Wg (FG P Im c Wg) n 1 g')/\
 (∀u:Nat,u<v->∃g',(∀w,WgAt P Wg w ((u:Int)* KK) 0->stepG P false g w=.go g' w #[jh (ec Wg)])/\∃n,cT P (eM P Im c Wg v) n 1 g')
theorem eM.succ{k d:Nat}{g:SG}(h:eM P Im c Wg (k+1) d g):d=1/\g.status=.running/\∀v:Nat,v<=k->v<=4->∃g',(∀w,WgAt P Wg w ((v:Int)* KK) 0->stepG P false g w=.go g' w #[jh (ec Wg)])/\
  (v=0->∃n,im P Wg (uA P Im c Wg) n 1 g')/\(v≠0->∃n,cT P (FF P c Wg Im v) n 1 g'):=by
 rw[eM]at h;exact h
theorem eM.zero{d:Nat}{g:SG}(h:eM P Im c Wg 0 d g):False:=by
 rw[eM]at h;exact h
def GS.is:GS->Nat->SG->Prop
 |.gone q,d,g=>Zf P q d g
 |.work j h V,d,g=>d=V.deaf/\lL P h V g/\∃S,Ss[j]?=some S/\V.role=.work c Wg S
 |.oq j h V V' g0 v z,d,g=>d=0/\V.deaf=0/\g=parked g0 #[scase c v z] .send/\lL P h V' (Ua g0 undef)/\∃sp S,∃B:Nat->Bool,Ss[j]?=some (sp::S)/\V.role=.work c Wg (sp::S)/\
   sp v V.ah (λb=>if B b then V.own b else none)/\V'={V with own:=λb=>if B b then none else V.own b,role:=.work c Wg S}
 |.add n,d,g=>cT P (Cm P Wg) n d g
 |.load n,d,g=>cT P (FI P Wg) n d g
 |.store n,d,g=>cT P (FK P Wg) n d g
 |.mI n,d,g=>cT P (FJ P Wg) n d g
 |.head k n,d,g=>cT P (eM P Im c Wg k) n d g
 |.ml v n,d,g=>cT P (FF P c Wg Im v) n d g
 |.said n,d,g=>im P Wg (FG P Im c Wg) n d g
 |.iq n,d,g=>cT P (FH P Im c Wg) n d g\/(n=0/\∃g1,g={g1 with status:=.blocked}/\FH P Im c Wg d g1)
 |.last n,d,g=>cT P (Jw P Im c Wg) n d g
 |.acq n,d,g=>im P Wg (uA P Im c Wg) n d g
 |.look n,d,g=>cT P (Jx P Im c) n d g
 |.close n,d,g=>cT P (Jv P c) n d g
end
theorem cT.running{P:SI}{Stop:Nat->SG->Prop}(hs:∀d g,Stop d g->g.status=.running):∀{n d:Nat}{g:SG},cT P Stop n d g->g.status=.running
 |0,_,_,h=>hs _ _ h
 |_+1,_,_,h=>h.elim (hs _ _) (λx=>x.1)
theorem im.running{P:SI}{Wg:Nat}{Stop:Nat->SG->Prop}(hs:∀d g,Stop d g->g.status=.running):∀{n d:Nat}{g:SG},im P Wg Stop n d g->g.status=.running
 |0,_,_,h=>hs _ _ h
 |_+1,_,_,h=>h.elim (hs _ _) (λx=>x.1)
theorem aaP{P:SI}{Im:cC}{c Wg:Nat}:∀{k d:Nat}{g:SG},eM P Im c Wg k d g->g.status=.running
 |0,_,_,h=>(eM.zero P c Wg Im h).elim
 |_+1,_,_,h=>(eM.succ P c Wg Im h).2.1
theorem GS.runs{P:SI}{c Wg:Nat}{Im:cC}{Ss:List (List Spec)}{K:GS}{d:Nat}{g:SG}(h:K.is P c Wg Im Ss d g):
  g.status=.running\/g.status=.finished/\(∃q,K=.gone q)\/(∃j h V V' g0 v z,K=.oq j h V V' g0 v z)\/((∃n,K=.iq n)/\g.status=.blocked/\g.offers=none):=by
 cases K with
 |gone q=>exact(ZS h).elim .inl (λx=> .inr (.inl ⟨x,q,rfl⟩))
 |work j h' V=>exact .inl h.2.1.running
 |oq j h' V V' g0 v z=>exact .inr (.inr (.inl ⟨j,h',V,V',g0,v,z,rfl⟩))
 |add n=>exact .inl (cT.running (λd g x=>x.2.1) h)
 |load n=>exact .inl (cT.running (λd g x=>x.2.1) h)
 |store n=>exact .inl (cT.running (λd g x=>x.2.1) h)
 |mI n=>exact .inl (cT.running (λd g x=>x.2.1) h)
 |head k n=>exact .inl (cT.running (λd g x=>aaP x) h)
 |ml v n=>exact .inl (cT.running (λd g x=>x.2.1) h)
 |said n=>exact .inl (im.running (λd g x=>x.2.1) h)
 |iq n=>
  rcases h with h|⟨_,g1,rfl,h⟩
  ·exact .inl (cT.running (λd g x=>x.2.1) h)
  ·exact .inr (.inr (.inr ⟨⟨n,rfl⟩,rfl,h.2.2.1⟩))
 |last n=>exact .inl (cT.running (λd g x=>x.2.1) h)
 |acq n=>exact .inl (im.running (λd g x=>x.2.1) h)
 |look n=>exact .inl (cT.running (λd g x=>x.2.1) h)
 |close n=>exact .inl (cT.running (λd g x=>x.2.1) h)
structure Rel (Wg:Nat)(t:Uq)(i r:Nat):Prop where
 act:t.act? r=some (.mark (.releaseMerge (ec Wg)))
 g:t.g? r=some i
 heard:t.heard r
theorem Rel.app{Wg:Nat}{t u:Uq}{i r:Nat}(h:Rel Wg t i r):Rel Wg (t++u) i r:=
 have hr:=Wh h.act
 ⟨by rw[Yg hr];exact h.act,by rw[g?_old hr];exact h.g,(Wu hr).2 h.heard⟩
inductive eA where
 |early
 |got
 |shut (p:Nat)
 deriving DecidableEq
def xR (Wg:Nat)(t:Uq)(K:Nat->GS)(ic:Nat):eA->Nat->Prop
 |.early,idx=>∃i,t.g? idx=some i/\0<i/\(((K i).idx.isSome=true)\/(i=ic)\/∃r,Rel Wg t i r/\idx<=r)
 |.got,idx=>Wq t ic idx
 |.shut p,idx=>Before t idx p
def Rest (Wg:Nat)(t:Uq)(K:Nat->GS)(ic:Nat)(st:Option eA):Prop:=
 ∀idx a,touchAt t idx=some a->a.loc.isMemory=true->Wq t 0 idx\/(a.kind=.atomic/\¬t.heard idx)\/∃s,st=some s/\xR Wg t K ic s idx
def Mode (P:SI)(c Wg N:Nat)(w:Tq)(gs:Array SG)(t:Uq)(K:Nat->GS)(ic:Nat)(s:eA):Prop:=
 let cn:Nat:=sumTo N λi=>(K i).cnt;let la:Nat:=sumTo N λi=>(K i).late;let opn:=∃n,w.heap[c]?=some (.chan 0 #[] false n n false)
 (opn/\s=.early/\la=0/\cn<=4/\WgAt P Wg w ((cn:Int)* KK) 0/\((∃k,(K ic).shape=.head k 0/\cn<k)\/(∃v,(K ic).shape=.ml v 0/\cn<=v/\0<v)))\/
 (opn/\s=.early/\la=0/\1<=cn/\cn<=4/\WgAt P Wg w ((cn:Int)* KK+1) 0/\((K ic).shape=.said 0\/(K ic).shape=.iq 0))\/
 (opn/\s=.early/\la=1/\cn=0/\((K ic).shape=.said 0\/(K ic).shape=.iq 0)/\(∀i,i<N->((K i).shape=.load 0\/(K i).shape=.store 0)->WgAt P Wg w 1 0)/\(∀i,i<N->(K i).shape=.mI 0->WgAt P Wg w 0 0))\/
 (opn/\s=.early/\la=0/\cn=0/\WgAt P Wg w 0 1/\(∀g,gs[ic]?=some g->g.status=.running)/\((K ic).shape=.said 0\/(K ic).shape=.iq 0))\/
 (opn/\s=.early/\la=0/\cn=0/\WgAt P Wg w 0 0/\((K ic).shape=.last 0\/(K ic).shape=.acq 0))\/
 (opn/\s=.got/\la=0/\cn=0/\((K ic).shape=.look 0\/(K ic).shape=.close 0))\/
 ((∃p n,s=.shut p/\t.act? p=some (.close c)/\t.heard p/\w.heap[c]?=some (.chan 0 #[] true n n false))/\la=0/\cn=0/\(K ic).shape=.gone 0)
def kD (gs:Array SG)(g:SG):Prop:=∃g0,gs[0]?=some g0/\g0.status=.running/\g0.frame=g.frame/\g0.callers=g.callers/\g0.dying=g.dying
def oy (gs:Array SG)(g:SG)(c:Nat):Prop:=∃g0 z,gs[0]?=some (parked g0 #[rcase c z] (.recv true))/\g0.frame=g.frame/\g0.callers=g.callers/\g0.dying=g.dying
structure Phase where
 c:Nat
 Wg:Nat
 Ss:List (List Spec)
 recv:Bool
def bL (V:View)(Im:cC)(K:Nat->GS):Nat->View:=λi=>if i=0 then V else(K i).view Im
structure Inv (P:SI)(n0:Nat)(W0:Tq)(V:View)(gs:Array SG)(w:Tq)(t:Uq)(K:Nat->GS)(Im:cC)(ic:Nat)(ph:Option Phase)(st:Option eA):Prop where
 pos:0<gs.size
 k0:K 0=.gone 0
 d0:U4 t 0=V.deaf
 «is» : ∀ i g, 0 < i -> gs[i]? = some g -> match ph with
  |some p=>(K i).is P p.c p.Wg Im p.Ss (U4 t i) g
  |none=>∃q,K i=.gone q/\Zf P q (U4 t i) g
 core:Core (bL V Im K) gs.size w t (match ph with|some p=>rE p.c p.Wg|none=>λ_=>False)
  (λi=>match ph with|some p=>if p.recv then 0<i/\i<gs.size/\((K i).idx.isSome=true\/i=ic\/(K i).cnt=1\/(K i).late=1)else i=0\/(i<gs.size/\(K i).idx.isSome=true)|none=>False) ic n0 W0
 rest:Rest (match ph with|some p=>p.Wg|none=>0) t K ic st
 phase:match ph with
  |none=>st=none
  |some p=>n0<=p.c/\n0<=p.Wg/\p.c≠p.Wg/\p.c<w.heap.size/\p.Wg<w.heap.size/\p.Ss.length<=4/\
   (∀i,0<i->((K i).view Im).own p.c=none/\(∀o,((K i).view Im).ah p.c o=none)/\((K i).view Im).own p.Wg=none/\(∀o,((K i).view Im).ah p.Wg o=none)/\((K i).nG=true->i=ic))/\
   (∀i i' j,0<i->i<gs.size->0<i'->i'<gs.size->(K i).idx=some j->(K i').idx=some j->i=i')/\
   (∀j S,p.Ss[j]?=some S->S≠[]->∃i,0<i/\i<gs.size/\(K i).idx=some j)/\
   (if p.recv then(V.own p.c=none/\(∀o,V.ah p.c o=none)/\V.own p.Wg=none/\(∀o,V.ah p.Wg o=none))/\0<ic/\ic<gs.size/\(∃s,st=some s/\Mode P p.c p.Wg gs.size w gs t K ic s)
    else V.own p.c=some (.chan 0 #[] false 0 0 false)/\ic=0/\st=some .early/\(∀i,0<i->i<gs.size->(K i).idx.isSome=true\/∃q,K i=.gone q)/\(∀S∈p.Ss,S≠[])/\(sumTo gs.size λi=>(K i).cnt)=p.Ss.length)
theorem B7(K:Nat->GS)(k:GS)(φ:GS->Nat){i N:Nat}(hi:i<N):sumTo N (λa=>φ (upd K i k a))+φ (K i)=sumTo N (λa=>φ (K a))+φ k:=sumTo_upd K k φ hi
theorem lH(K:Nat->GS)(k:GS)(φ:GS->Nat){i N:Nat}(h:φ k=φ (K i)):sumTo N (λa=>φ (upd K i k a))=sumTo N (λa=>φ (K a)):=
 Vv λa _=>by by_cases ha:a=i;subst ha;rw[bB,h];rw[bf _ _ ha]
theorem Core.CM{VV:Nat->View}{N:Nat}{w:Tq}{t:Uq}{Sh:Loc->Prop}{act act':Nat->Prop}{ic n0:Nat}{W0:Tq}(h:Core VV N w t Sh act ic n0 W0)(ha:∀i,act' i->act i):Core VV N w t Sh act' ic n0 W0:=
 ⟨h.sat,h.dP,h.ti.weaken (SO _) (λ_ _ _ x=> .inl x) (λ_ _ _ x=>x) (λidx a x y=>⟨λhp i hi=>(h.ti.sp idx a x y).1 hp i (ha i hi),(h.ti.sp idx a x y).2⟩),h.tape,h.os,h.out,h.old,h.ju,h.n0⟩
theorem Core.congr{VV FZ:Nat->View}{N:Nat}{w:Tq}{t:Uq}{Sh:Loc->Prop}{act:Nat->Prop}{ic n0:Nat}{W0:Tq}(h:Core VV N w t Sh act ic n0 W0)(e:∀i,i<N->FZ i=VV i):Core FZ N w t Sh act ic n0 W0:=
 ⟨λi hi=>by rw[e i hi];exact h.sat i hi,λi j hi hj kx=>by rw[e i hi,e j hj];exact h.dP i j hi hj kx,
  h.ti.weaken (SO _) (λi l hi ⟨x,y,z⟩=> .inl ⟨x,by rw[<- e i hi];exact y,z⟩) (λi l hi ⟨x,y,z⟩=>⟨x,by rw[<- e i hi];exact y,z⟩) h.ti.sp,h.tape,h.os,h.out,h.old,λi hi b hb=>by rw[e i hi];exact h.ju i hi b hb,h.n0⟩
theorem PH(V:View)(Im:cC)(K:Nat->GS){i:Nat}(hi:0<i)(k:GS):bL V Im (upd K i k)=upd (bL V Im K) i (k.view Im):=by
 funext j;by_cases hj:j=i
 ·subst hj;rw[bB];simp[bL,bB];omega
 ·rw[bf _ _ hj];simp[bL,bf _ _ hj]
theorem abL{P:SI}{c Wg:Nat}{Im:cC}{Ss:List (List Spec)}{k:GS}{d:Nat}{x g g':SG}{w':Tq}(ho:(∃n,w'.heap[c]?=some (.chan 0 #[] false n n false))\/k.idx=none) (h:k.is P c Wg Im Ss d x):
  k.is P c Wg Im Ss d (woken P g g' w' x):=by
 rcases GS.runs h with hr|⟨hf,q,rfl⟩|⟨j,h',V,V',g0,v,z,rfl⟩|⟨⟨n,rfl⟩,hb,hof⟩
 ·rw[Yt hr];exact h
 ·rw[woken_quitsD h];exact h
 ·rcases ho with⟨n,ho⟩|ho
  ·obtain⟨h1,h2,rfl,h4⟩:=h;rw[woken_send_open _ _ ho];exact⟨h1,h2,rfl,h4⟩
  ·cases ho
 ·rcases h with h|⟨hn,g1,rfl,h⟩
  ·rw[cT.running (λd g x=>x.2.1) h]at hb;cases hb
  ·unfold woken;split
   ·subst hn;refine .inl ?_;have e:({g1 with status:=av5}:SG).again w'=g1:=by
     obtain⟨f,cs,s,dy,o⟩:=g1;have h2:=h.2.1;have h3:=h.2.2.1;simp only at h2 h3;subst h2 h3;rfl
    rw[e];exact h
   ·exact .inr ⟨hn,g1,rfl,h⟩
theorem Ol{P:SI}{gs:Array SG}{g:SG}{w':Tq}{i:Nat}{gi bF:SG}(hi:0<i)(h:kD gs g):kD ((gs.map (woken P gi bF w')).setIfInBounds i bF) g:=by
 obtain⟨g0,h0,h1,h2⟩:=h;exact⟨g0,by rw[SX (by omega),WI,h0];simp[Yt h1],h1,h2⟩
theorem OI{P:SI}{gs:Array SG}{g:SG}{w':Tq}{i c:Nat}{gi bF:SG}(hi:0<i)(h:oy gs g c)(ho:∃n,w'.heap[c]?=some (.chan 0 #[] false n n false)):oy ((gs.map (woken P gi bF w')).setIfInBounds i bF) g c:=by
 obtain⟨g0,z,h0,h2⟩:=h;obtain⟨n,ho⟩:=ho;exact⟨g0,z,by rw[SX (by omega),WI,h0];simp[woken_recv_open _ _ ho],h2⟩
theorem apS{P:SI}{gs:Array SG}{g:SG}{w':Tq}{i c:Nat}{gi bF:SG}(hi:0<i)(h:oy gs g c)(hw:mayWake P gi=true)(hs:bF.status=.running\/bF.status=.finished)(ho:∃n,w'.heap[c]?=some (.chan 0 #[] true n n false)):
  kD ((gs.map (woken P gi bF w')).setIfInBounds i bF) g:=by
 obtain⟨g0,z,h0,h2⟩:=h;obtain⟨n,ho⟩:=ho;refine⟨{parked g0 #[rcase c z] (.recv true)with status:=.running},?_,rfl,h2⟩;rw[SX (by omega),WI,h0];have:woken P gi bF w' (parked g0 #[rcase c z] (.recv true))={parked g0 #[rcase c z] (.recv true)with status:=.running}:=by
  unfold woken;have hc:(mayWake P gi&&bF.status != .blocked&&bF.status != .waiting)=true:=by rcases hs with hs|hs<;>simp[hw,hs]
  rw[if_pos hc,again_recv_closed ho]
 simp[this]
def Ah (w:Tq)(c:Nat):Prop:=∃n,w.heap[c]?=some (.chan 0 #[] false n n false)
def JH (gs gs':Array SG)(w w':Tq)(g:SG)(c:Nat):Prop:=(kD gs g->kD gs' g)/\(oy gs g c->Ah w c->kD gs' g\/(oy gs' g c/\Ah w' c))
def Calm (gs:Array SG):Prop:=∀i x,0<i->gs[i]?=some x->x.status=.blocked->x.offers=none
def flag (gs:Array SG)(ic:Nat):Nat:=if(gs[ic]?).any (·.status== .running)then 1 else 0
def jf (p:Phase)(N ic:Nat)(K:Nat->GS)(i:Nat):Prop:=if p.recv then 0<i/\i<N/\((K i).idx.isSome=true\/i=ic\/(K i).cnt=1\/(K i).late=1)else i=0\/(i<N/\(K i).idx.isSome=true)
section
variable {P:SI}{n0:Nat}{W0:Tq}{V:View}{gs:Array SG}{w:Tq}{t:Uq}{K:Nat->GS}{Im:cC}{ic:Nat}{ph:Option Phase}{st:Option eA}
structure gE (P:SI)(n0:Nat)(W0:Tq)(V:View)(gs:Array SG)(w:Tq)(sl:Option (Nat×Nat))(t:Uq)(K:Nat->GS)(Im:cC)(ic:Nat)(ph:Option Phase)(st:Option eA)(i:Nat):Prop where
 intro::
 avP:∃gs' w' ops K' st',runT P (crowd gs w sl) i=(.next (crowd gs' w' sl),ops)/\gs'.size=gs.size/\Inv P n0 W0 V gs' w' (t++ops) K' Im ic ph st'/\(∀g c,(∀p,ph=some p->p.c=c)->JH gs gs' w w' g c)/\(∀g c,oy gs g c->Calm gs->Calm gs')/\
  Cx gs.size ((λj=>(K' j).c9),flag gs' ic) ((λj=>(K j).c9),flag gs ic)
theorem getElem?_next{gi bF:SG}{w':Tq}{i j:Nat}{x:SG}(hlt:i<gs.size)(h:((gs.map (woken P gi bF w')).setIfInBounds i bF)[j]?=some x):(j=i/\x=bF)\/(j≠i/\∃y,gs[j]?=some y/\x=woken P gi bF w' y):=by
 by_cases cx:j=i
 ·subst cx;rw[Tb (by simpa using hlt)]at h;exact .inl ⟨rfl,(Wb h).symm⟩
 ·rw[SX (Ne.symm cx),WI]at h;obtain⟨y,hy,rfl⟩:=Ts.1 h;exact .inr ⟨cx,y,hy,rfl⟩
theorem Rest.app{Wg:Nat}{t u:Uq}{K K':Nat->GS}{ic:Nat}{s s':eA}(h:Rest Wg t K ic (some s))(hold:∀idx a,touchAt t idx=some a->xR Wg t K ic s idx->Wq (t++u) 0 idx\/xR Wg (t++u) K' ic s' idx)
  (xb:∀idx a,t.size<=idx->(∃op∈u,(t++u)[idx]?=some op/\op.act.touch?=some a)->a.loc.isMemory=true->Wq (t++u) 0 idx\/(a.kind=.atomic/\¬(t++u).heard idx)\/xR Wg (t++u) K' ic s' idx):Rest Wg (t++u) K' ic (some s'):=by
 intro idx a ha hm;rcases B_ ha with gp|⟨hi,hx⟩
 ·obtain⟨op,ay,_⟩:=U6 gp;rcases h idx a gp hm with x|⟨x,y⟩|⟨s1,dT,x⟩
  ·exact .inl (x.app u)
  ·exact .inr (.inl ⟨x,λz=>y ((Wu (TP ay)).1 z)⟩)
  ·cases dT;exact(hold idx a gp x).imp id λy=> .inr ⟨s',rfl,y⟩
 ·exact(xb idx a hi hx hm).imp id (λy=>y.imp id λz=>⟨s',rfl,z⟩)
theorem xR.app{Wg:Nat}{t u:Uq}{K K':Nat->GS}{ic idx:Nat}{s:eA}(cY:idx<t.size)(h:xR Wg t K ic s idx)(hK:∀i,t.g? idx=some i->0<i->(K i).idx.isSome=true->(K' i).idx.isSome=true\/∃r,Rel Wg (t++u) i r/\idx<=r):xR Wg (t++u) K' ic s idx:=by
 cases s with
 |early=>
  obtain⟨i,hg,h0,hx⟩:=h;refine⟨i,by rw[g?_old cY];exact hg,h0,?_⟩;rcases hx with x|x|⟨r,x,y⟩
  ·exact(hK i hg h0 x).imp id .inr
  ·exact .inr (.inl x)
  ·exact .inr (.inr ⟨r,x.app,y⟩)
 |got=>exact Knows.app u h
 |shut p=>exact Before.app u h
end
def sH (ph:Option Phase):Loc->Prop:=match ph with|some p=>rE p.c p.Wg|none=>λ_=>False
def nw (ph:Option Phase)(N ic:Nat)(K:Nat->GS):Nat->Prop:=λi=>match ph with|some p=>jf p N ic K i|none=>False
def Cc (ph:Option Phase):Nat:=match ph with|some p=>p.Wg|none=>0
section
variable {P:SI}{n0:Nat}{W0:Tq}{V:View}{gs:Array SG}{w w':Tq}{sl:Option (Nat×Nat)}{t:Uq}{K:Nat->GS}{Im:cC}{ic:Nat}{ph:Option Phase}{st st':Option eA}
def Ai (P:SI)(n0:Nat)(V:View)(gs:Array SG)(w:Tq)(t:Uq)(K:Nat->GS)(Im:cC)(ic:Nat)(ph:Option Phase)(st:Option eA):Prop:=match ph with
  |none=>st=none
  |some p=>n0<=p.c/\n0<=p.Wg/\p.c≠p.Wg/\p.c<w.heap.size/\p.Wg<w.heap.size/\p.Ss.length<=4/\
   (∀i,0<i->((K i).view Im).own p.c=none/\(∀o,((K i).view Im).ah p.c o=none)/\((K i).view Im).own p.Wg=none/\(∀o,((K i).view Im).ah p.Wg o=none)/\((K i).nG=true->i=ic))/\
   (∀i i' j,0<i->i<gs.size->0<i'->i'<gs.size->(K i).idx=some j->(K i').idx=some j->i=i')/\
   (∀j S,p.Ss[j]?=some S->S≠[]->∃i,0<i/\i<gs.size/\(K i).idx=some j)/\
   (if p.recv then(V.own p.c=none/\(∀o,V.ah p.c o=none)/\V.own p.Wg=none/\(∀o,V.ah p.Wg o=none))/\0<ic/\ic<gs.size/\(∃s,st=some s/\Mode P p.c p.Wg gs.size w gs t K ic s)
    else V.own p.c=some (.chan 0 #[] false 0 0 false)/\ic=0/\st=some .early/\(∀i,0<i->i<gs.size->(K i).idx.isSome=true\/∃q,K i=.gone q)/\(∀S∈p.Ss,S≠[])/\(sumTo gs.size λi=>(K i).cnt)=p.Ss.length)
def Cp (P:SI)(Im:cC)(ph:Option Phase)(k:GS)(d:Nat)(g:SG):Prop:=match ph with
  |some p=>k.is P p.c p.Wg Im p.Ss d g
  |none=>∃q,k=.gone q/\Zf P q d g
theorem Inv.mk'(pos:0<gs.size)(k0:K 0=.gone 0)(d0:U4 t 0=V.deaf)(dl:∀i g,0<i->gs[i]?=some g->Cp P Im ph (K i) (U4 t i) g)
  (hc:Core (bL V Im K) gs.size w t (sH ph) (nw ph gs.size ic K) ic n0 W0) (hr:Rest (Cc ph) t K ic st) (hp:Ai P n0 V gs w t K Im ic ph st):Inv P n0 W0 V gs w t K Im ic ph st:=by
 cases ph with
 |none=>exact⟨pos,k0,d0,dl,hc,hr,hp⟩
 |some p=>exact⟨pos,k0,d0,dl,hc,hr,hp⟩
theorem Inv.out(h:Inv P n0 W0 V gs w t K Im ic ph st):(∀i g,0<i->gs[i]?=some g->Cp P Im ph (K i) (U4 t i) g)/\Core (bL V Im K) gs.size w t (sH ph) (nw ph gs.size ic K) ic n0 W0/\Rest (Cc ph) t K ic st/\Ai P n0 V gs w t K Im ic ph st:=by
 cases ph with
 |none=>exact⟨h.is,h.core,h.rest,h.phase⟩
 |some p=>exact⟨h.is,h.core,h.rest,h.phase⟩
theorem ahG{y:SG}(hy:y.status=.blocked->y.offers=none):(y.again w').status=.blocked->(y.again w').offers=none:=by
 obtain⟨f,cs,s,d,o⟩:=y;unfold Y4;cases s<;>cases o<;>simp_all
theorem ahH{g g' y:SG}(hy:y.status=.blocked->y.offers=none)(hb:(woken P g g' w' y).status=.blocked):(woken P g g' w' y).offers=none:=by
 unfold woken at hb⊢;split
 ·rename_i hh;rw[if_pos hh]at hb;exact ahG hy hb
 ·rename_i hh;rw[if_neg hh]at hb;exact hy hb
theorem Inv.acy(h:Inv P n0 W0 V gs w t K Im ic ph st){i:Nat}{gi bF:SG}{es:Array Uu}{k':GS}(hi:0<i)(aO:gs[i]?=some gi)(aP:stepG P false gi w=.go bF w' es)
  (hk:Cp P Im ph k' (deafBehind (U4 t i) es) bF) (tM:bF.status=.blocked->bF.offers=none) (gM:∀p,ph=some p->(∃n,w'.heap[p.c]?=some (.chan 0 #[] false n n false))\/(∀j,0<j->j<gs.size->j≠i->(K j).idx=none))
  (yN:Core (bL V Im (upd K i k')) gs.size w' (t++Tc i gi.frame.fn gi.frame.place es) (sH ph) (nw ph gs.size ic (upd K i k')) ic n0 W0)
  (lV:Rest (Cc ph) (t++Tc i gi.frame.fn gi.frame.place es) (upd K i k') ic st')
  (D_:Ai P n0 V ((gs.map (woken P gi bF w')).setIfInBounds i bF) w' (t++Tc i gi.frame.fn gi.frame.place es) (upd K i k') Im ic ph st')
  (jI:Cx gs.size ((λj=>(upd K i k' j).c9),flag ((gs.map (woken P gi bF w')).setIfInBounds i bF) ic) ((λj=>(K j).c9),flag gs ic))
  (pN:∀g c,(∀p,ph=some p->p.c=c)->JH gs ((gs.map (woken P gi bF w')).setIfInBounds i bF) w w' g c):gE P n0 W0 V gs w sl t K Im ic ph st i:=by
 have hlt:i<gs.size:=(SS.1 aO).1;have eX:(i==0)=false:=by simp;omega
 have aY:((gs.map (woken P gi bF w')).setIfInBounds i bF).size=gs.size:=by simp
 have Ej:∀op∈Tc i gi.frame.fn gi.frame.place es,op.g=i:=λop ay=>by obtain⟨e,_,rfl⟩:=TU ay;rfl
 refine⟨_,w',_,upd K i k',st',runT_crowd_go (P:=P) (sl:=sl) aO (by rw[eX];exact aP),aY,?_,pN,?_,jI⟩
 rotate_left
 ·intro g c _ hc j x hj hx hb;rcases getElem?_next hlt hx with⟨_,rfl⟩|⟨_,y,hy,rfl⟩
  ·exact tM hb
  ·exact ahH (hc j y hj hy) hb
 refine Inv.mk' (by rw[aY];exact h.pos) (by rw[bf _ _ (by omega)];exact h.k0) ?_ (λj x hj hx=> ?_) (by rw[aY];exact yN) lV D_
 ·rw[av7 t (g:=0) (g':=i) (by omega) _ Ej];exact h.d0
 ·rcases getElem?_next hlt hx with⟨rfl,rfl⟩|⟨cx,y,hy,rfl⟩
  ·rw[bB,Deaf_own];exact hk
  ·rw[bf _ _ cx,av7 t (g:=j) (g':=i) (Ne.symm cx) _ Ej];have Et:=h.out.1 j y hj hy;have Mw:j<gs.size:=(SS.1 hy).1;cases ph with
   |none=>
    obtain⟨q,hq,pZ⟩:=Et;exact⟨q,hq,by rw[woken_quitsD pZ];exact pZ⟩
   |some p=>
    refine abL ?_ Et;rcases gM p rfl with x|x
    ·exact .inl x
    ·exact .inr (x j hj Mw cx)
theorem Inv.next(h:Inv P n0 W0 V gs w t K Im ic ph st){i:Nat}{gi bF:SG}{es:Array Uu}{k':GS}(hi:0<i)(aO:gs[i]?=some gi)(aP:stepG P false gi w=.go bF w' es)
  (hk:Cp P Im ph k' (deafBehind (U4 t i) es) bF) (tM:bF.status=.blocked->bF.offers=none) (gM:∀p,ph=some p->(∃n,w'.heap[p.c]?=some (.chan 0 #[] false n n false))\/(∀j,0<j->j<gs.size->j≠i->(K j).idx=none))
  (yN:Core (bL V Im (upd K i k')) gs.size w' (t++Tc i gi.frame.fn gi.frame.place es) (sH ph) (nw ph gs.size ic (upd K i k')) ic n0 W0)
  (lV:Rest (Cc ph) (t++Tc i gi.frame.fn gi.frame.place es) (upd K i k') ic st')
  (D_:Ai P n0 V ((gs.map (woken P gi bF w')).setIfInBounds i bF) w' (t++Tc i gi.frame.fn gi.frame.place es) (upd K i k') Im ic ph st')
  (vz:rC k'.c9 (K i).c9)
  (pN:∀g c,(∀p,ph=some p->p.c=c)->JH gs ((gs.map (woken P gi bF w')).setIfInBounds i bF) w w' g c):gE P n0 W0 V gs w sl t K Im ic ph st i:=
 h.acy hi aO aP hk tM gM yN lV D_ (.inl ⟨i,(SS.1 aO).1,by simpa only[bB]using vz,λj hj=>by show (upd K i k' j).c9=(K j).c9;rw[bf _ _ hj]⟩) pN
theorem ao2{B:Nat}{e:Uu}(h:e.mute=true):(Tt e).touch?=none/\(Tt e).low B/\∀a,Tt e≠ .mark (.release a):=by
 refine⟨Z8 h,low_mute h B,λa=> ?_⟩;obtain⟨l,wr,sy⟩:=e;cases l with
 |mark m=>cases m<;>cases wr<;>cases sy<;>simp_all[Tt,WK]
 |_=>simp[WK]at h
theorem Mode.keep{c Wg N:Nat}{gs':Array SG}{u:Uq}{K':Nat->GS}{s:eA}(h:Mode P c Wg N w gs t K ic s)(hs:∀j,(K' j).shape=(K j).shape)(hc:w'.heap[c]?=w.heap[c]?)(hW:w'.heap[Wg]?=w.heap[Wg]?)
  (hr:(∀g,gs[ic]?=some g->g.status=.running)->∀g,gs'[ic]?=some g->g.status=.running):Mode P c Wg N w' gs' (t++u) K' ic s:=by
 have e1:sumTo N (λi=>(K' i).cnt)=sumTo N λi=>(K i).cnt:=Vv λi _=>by rw[<- GS.nH,hs i,GS.nH]
 have e2:sumTo N (λi=>(K' i).late)=sumTo N λi=>(K i).late:=Vv λi _=>by rw[<- GS.mD,hs i,GS.mD]
 have e3:∀st sm,WgAt P Wg w' st sm=WgAt P Wg w st sm:=λst sm=>by unfold WgAt;rw[hW]
 unfold Mode at h⊢;simp only[e1,e2,e3,hs,hc];rcases h with h|h|h|h|h|h|h
 ·exact .inl h
 ·exact .inr (.inl h)
 ·exact .inr (.inr (.inl h))
 ·exact .inr (.inr (.inr (.inl ⟨h.1,h.2.1,h.2.2.1,h.2.2.2.1,h.2.2.2.2.1,hr h.2.2.2.2.2.1,h.2.2.2.2.2.2⟩)))
 ·exact .inr (.inr (.inr (.inr (.inl h))))
 ·exact .inr (.inr (.inr (.inr (.inr (.inl h)))))
 ·obtain⟨⟨p,n,a,b,c',d⟩,e⟩:=h;exact .inr (.inr (.inr (.inr (.inr (.inr ⟨⟨p,n,a,by rw[Yg (Wh b)];exact b,(Wu (Wh b)).2 c',d⟩,e⟩)))))
theorem ads{i:Nat}{gi bF:SG}(hlt:i<gs.size)(hg:bF.status=.running)(h:∀g,gs[ic]?=some g->g.status=.running):∀g,((gs.map (woken P gi bF w')).setIfInBounds i bF)[ic]?=some g->g.status=.running:=by
 intro g A_;rcases getElem?_next hlt A_ with⟨_,rfl⟩|⟨_,y,hy,rfl⟩
 ·exact hg
 ·rw[Yt (h y hy)];exact h y hy
theorem GS.abG{k:GS}(h:k.cnt=0):k.idx=none:=by
 cases k<;>first|rfl|(simp[GS.cnt]at h)
theorem Inv.opens(h:Inv P n0 W0 V gs w t K Im ic ph st){p:Phase}(hp:ph=some p):(∃n,w.heap[p.c]?=some (.chan 0 #[] false n n false))\/((∀j,0<j->j<gs.size->(K j).idx=none)/\(∃n,w.heap[p.c]?=some (.chan 0 #[] true n n false))/\p.recv=true):=by
 subst hp;obtain⟨_,hc,_,gN⟩:=h.out;obtain⟨_,_,_,_,_,_,_,_,_,hx⟩:=gN;by_cases hr:p.recv=true
 ·rw[if_pos hr]at hx;obtain⟨_,_,_,s,_,hm⟩:=hx;rcases hm with h|h|h|h|h|h|h
  ·exact .inl h.1
  ·exact .inl h.1
  ·exact .inl h.1
  ·exact .inl h.1
  ·exact .inl h.1
  ·exact .inl h.1
  ·obtain⟨⟨_,n,_,_,_,hn⟩,_,gX,_⟩:=h;refine .inr ⟨λj hj iJ=> ?_,⟨n,hn⟩,hr⟩;have hle:(K j).cnt<=sumTo gs.size λi=>(K i).cnt:=WG (f:=λi=>(K i).cnt) iJ;exact GS.abG (by omega)
 ·rw[if_neg hr]at hx;have:=(hc.sat 0 h.pos).own p.c _ (by simp only[bL,if_true];exact hx.1);exact .inl ⟨0,this⟩
theorem Inv.slip(h:Inv P n0 W0 V gs w t K Im ic ph st){i:Nat}{gi bF:SG}{es:Array Uu}{k':GS}(hi:0<i)(aO:gs[i]?=some gi)(aP:stepG P false gi w=.go bF w es)(jI:∀e∈es,e.mute=true)
  (hk:Cp P Im ph k' (deafBehind (U4 t i) es) bF) (tM:bF.status=.blocked->bF.offers=none) (dJ:k'.shape=(K i).shape) (mz:k'.view Im=(K i).view Im) (bQ:(K i).shape=.iq 0\/(K i).shape=.said 0->bF.status=.running) (vz:rC k'.c9 (K i).c9):gE P n0 W0 V gs w sl t K Im ic ph st i:=by
 have hlt:i<gs.size:=(SS.1 aO).1;obtain⟨_,hc,hr,hp⟩:=h.out;have cY:∀j,((upd K i k') j).idx=(K j).idx:=λj=>by
  by_cases hj:j=i
  ·subst hj;rw[bB,<- GS.HY,dJ,GS.HY]
  ·rw[bf _ _ hj]
 have lW:∀j,((upd K i k') j).shape=(K j).shape:=λj=>by
  by_cases hj:j=i
  ·subst hj;rw[bB,dJ]
  ·rw[bf _ _ hj]
 have abB:∀j,((upd K i k') j).view Im=(K j).view Im:=λj=>by
  by_cases hj:j=i
  ·subst hj;rw[bB,mz]
  ·rw[bf _ _ hj]
 have pE:∀j,((upd K i k') j).cnt=(K j).cnt:=λj=>by rw[<- GS.nH,lW,GS.nH]
 have w_:∀j,((upd K i k') j).late=(K j).late:=λj=>by rw[<- GS.mD,lW,GS.mD]
 refine h.next (st':=st) hi aO aP hk tM (λp Bi=>(h.opens Bi).imp id λx j a b _=>x.1 j a b) ?_ ?_ ?_ vz ?_
 ·refine((hc.quiet hlt (λe he=>ao2 (jI e he)) gi.frame.fn gi.frame.place).congr λj hj=> ?_).CM λj hj=> ?_
  ·simp only[bL,abB]
  ·cases ph with
   |none=>exact hj
   |some p=>simpa only[nw,jf,cY,pE,w_]using hj
 ·cases st with
  |none=>
   intro idx a ha hm;have gp:=Ca (λop ay=>by obtain⟨e,he,rfl⟩:=TU ay;exact Z8 (jI e he)) ha;obtain⟨op,ay,_⟩:=U6 gp;rcases hr idx a gp hm with x|⟨x,y⟩|⟨_,z,_⟩
   ·exact .inl (x.app _)
   ·exact .inr (.inl ⟨x,λz=>y ((Wu (TP ay)).1 z)⟩)
   ·cases z
  |some s=>
   refine hr.app (λidx a ha hx=> .inr (hx.app (by obtain⟨op,ay,_⟩:=U6 ha;exact TP ay) λj _ _ hj=> .inl (by rw[cY];exact hj))) (λidx a _ ⟨op,ay,_,hx⟩ _=> ?_);obtain⟨e,he,rfl⟩:=TU ay;rw[Z8 (jI e he)]at hx;cases hx
 ·cases ph with
  |none=>exact hp
  |some p=>
   obtain⟨a1,a2,a3,a4,a5,a6,a7,a8,a9,b9⟩:=hp;refine⟨a1,a2,a3,a4,a5,a6,λj hj=>by rw[abB,<- GS.Q7,lW,GS.Q7];exact a7 j hj,λj j' m b1 b2 b3 b4 b5 b6=>a8 j j' m b1 (by simpa using b2) b3 (by simpa using b4) (by rw[<- cY];exact b5) (by rw[<- cY];exact b6),λj S b1 b2=> ?_,?_⟩
   ·obtain⟨m,c1,c2,c3⟩:=a9 j S b1 b2;exact⟨m,c1,by simpa using c2,by rw[cY];exact c3⟩
   ·split
    ·rename_i aI;rw[if_pos aI]at b9;obtain⟨c1,c2,c3,s,c4,c5⟩:=b9;refine⟨c1,c2,by simpa using c3,s,c4,?_⟩;have aY:((gs.map (woken P gi bF w)).setIfInBounds i bF).size=gs.size:=(by simp);rw[aY];by_cases fW:i=ic/\bF.status≠ .running
     ·
      obtain⟨rfl,sd⟩:=fW;unfold Mode at c5⊢;have e1:sumTo gs.size (λj=>((upd K i k') j).cnt)=sumTo gs.size λj=>(K j).cnt:=Vv λj _=>pE j;have e2:sumTo gs.size (λj=>((upd K i k') j).late)=sumTo gs.size λj=>(K j).late:=Vv λj _=>w_ j;simp only[e1,e2,lW];rcases c5 with h|h|h|h|h|h|h
      ·exact .inl h
      ·exact .inr (.inl h)
      ·exact .inr (.inr (.inl h))
      ·exact absurd (bQ h.2.2.2.2.2.2.symm) sd
      ·exact .inr (.inr (.inr (.inr (.inl h))))
      ·exact .inr (.inr (.inr (.inr (.inr (.inl h)))))
      ·obtain⟨⟨p,n,a,b,c',d⟩,e⟩:=h;exact .inr (.inr (.inr (.inr (.inr (.inr ⟨⟨p,n,a,by rw[Yg (Wh b)];exact b,(Wu (Wh b)).2 c',d⟩,e⟩)))))
     ·refine c5.keep lW rfl rfl λsf g hg=> ?_;rcases getElem?_next hlt hg with⟨rfl,rfl⟩|⟨_,y,hy,rfl⟩
      ·exact Tv λx=>fW ⟨rfl,x⟩
      ·rw[Yt (sf y hy)];exact sf y hy
    ·rename_i aI;rw[if_neg aI]at b9;refine⟨b9.1,b9.2.1,b9.2.2.1,λj b1 b2=> ?_,b9.2.2.2.2.1,?_⟩
     rotate_left
     ·rw[show ((gs.map (woken P gi bF w)).setIfInBounds i bF).size=gs.size by simp,Vv λj _=>pE j];exact b9.2.2.2.2.2
     rcases b9.2.2.2.1 j b1 (by simpa using b2)with x|⟨q,x⟩
     ·exact .inl (by rw[cY];exact x)
     ·by_cases hj:j=i
      ·subst hj;rw[bB];rw[x]at dJ;cases k'<;>simp[GS.shape]at dJ;exact .inr ⟨_,rfl⟩
      ·rw[bf _ _ hj];exact .inr ⟨q,x⟩
 ·intro g c _;exact⟨Ol hi,λjn ho=> .inr ⟨OI hi jn ho,ho⟩⟩
end
section
variable {P:SI}{n0:Nat}{W0:Tq}{V:View}{gs:Array SG}{w w':Tq}{sl:Option (Nat×Nat)}{t:Uq}{K:Nat->GS}{Im:cC}{ic:Nat}{p:Phase}{st st':Option eA}
def jz (p:Phase)(U:View):Prop:=U.own p.c=none/\(∀o,U.ah p.c o=none)/\U.own p.Wg=none/\(∀o,U.ah p.Wg o=none)
theorem jz.step{U U':View}{es:Array Uu}(b:jz p U)(s:di U w U' w' es)(hc:p.c<w.heap.size)(hW:p.Wg<w.heap.size):jz p U':=by
 have key:∀b,b<w.heap.size->U.own b=none->(∀o,U.ah b o=none)->U'.own b=none/\∀o,U'.ah b o=none:=by
  intro b hb ho hi;refine⟨s.own b hb ho,λo=> ?_⟩;cases e:U'.ah b o with
  |none=>rfl
  |some v=>
   rcases s.kP b o v e with x|x|x
   ·rw[hi o]at x;cases x
   ·exact absurd ho x
   ·omega
 have k1:=key p.c hc b.1 b.2.1;have k2:=key p.Wg hW b.2.2.1 b.2.2.2;exact⟨k1.1,k1.2,k2.1,k2.2⟩
theorem jz.BH{U:View}(b:jz p U){l:Loc}(h:gT U l):¬rE p.c p.Wg l:=by
 intro hs;cases l with
 |cell a=>
  have e:a.block=p.Wg:=hs;rcases h with h|h
  ·exact h (by rw[e];exact b.2.2.1)
  ·exact h (by rw[e];exact b.2.2.2 _)
 |obj r=>have e:r=p.c:=hs;exact h (by rw[e];exact b.1)
 |_=>exact hs
theorem jz.ghost{U U':View}(b:jz p U)(g:dY U U'):jz p U':=by
 have key:∀b,U.own b=none->(∀o,U.ah b o=none)->U'.own b=none/\∀o,U'.ah b o=none:=by
  intro b ho hi;refine⟨g.own b ho,λo=> ?_⟩;cases e:U'.ah b o with
  |none=>rfl
  |some v=>
   rcases g.kP b o v e with x|x
   ·rw[hi o]at x;cases x
   ·exact absurd ho x
 have k1:=key p.c b.1 b.2.1;have k2:=key p.Wg b.2.2.1 b.2.2.2;exact⟨k1.1,k1.2,k2.1,k2.2⟩
theorem ahn:jz p noView:=⟨rfl,λ_=>rfl,rfl,λ_=>rfl⟩
theorem Inv.blind(h:Inv P n0 W0 V gs w t K Im ic (some p) st){i:Nat}(hi:0<i):jz p ((K i).view Im):=let x:=h.phase.2.2.2.2.2.2.1 i hi;⟨x.1,x.2.1,x.2.2.1,x.2.2.2.1⟩
theorem Inv.sL(h:Inv P n0 W0 V gs w t K Im ic (some p) st){i:Nat}(hi:0<i)(hc:(K i).nG=true):i=ic:=(h.phase.2.2.2.2.2.2.1 i hi).2.2.2.2 hc
theorem Inv.low(h:Inv P n0 W0 V gs w t K Im ic (some p) st):p.c<w.heap.size/\p.Wg<w.heap.size:=⟨h.phase.2.2.2.1,h.phase.2.2.2.2.1⟩
theorem adS(hc:p.c<w.heap.size)(hW:p.Wg<w.heap.size){l:Loc}(h:rE p.c p.Wg l):l.low w.heap.size:=by
 cases l with
 |cell a=>show a.block<_;rw[show a.block=p.Wg from h];exact hW
 |obj r=>show r<_;rw[show r=p.c from h];exact hc
 |_=>exact h.elim
theorem Inv.ahY(h:Inv P n0 W0 V gs w t K Im ic (some p) st)(hr:p.recv=true){i:Nat}(hlt:i<gs.size)(hk:(K i).cnt=1):∃s,WgAt P p.Wg w s 0:=by
 obtain⟨_,_,_,_,_,_,_,_,_,hx⟩:=h.phase;rw[if_pos hr]at hx;obtain⟨_,_,_,s,hs,hm⟩:=hx;have hle:(K i).cnt<=sumTo gs.size λi=>(K i).cnt:=WG (f:=λi=>(K i).cnt) hlt;rcases hm with h|h|h|h|h|h|h
 ·exact⟨_,h.2.2.2.2.1⟩
 ·exact⟨_,h.2.2.2.2.2.1⟩
 ·have:=h.2.2.2.1;omega
 ·have:=h.2.2.2.1;omega
 ·have:=h.2.2.2.1;omega
 ·have:=h.2.2.2.1;omega
 ·have:=h.2.2.1;omega
theorem Inv.Qe(h:Inv P n0 W0 V gs w t K Im ic (some p) st)(hr:p.recv=true){n:Nat}(hk:K ic=.acq n\/K ic=.said n):∃x y,WgAt P p.Wg w x y:=by
 obtain⟨_,_,_,_,_,_,_,_,_,hx⟩:=h.phase;rw[if_pos hr]at hx;obtain⟨_,_,_,s,hs,hm⟩:=hx;unfold Mode at hm;rcases hm with h|h|h|h|h|h|h
 ·exact⟨_,_,h.2.2.2.2.1⟩
 ·exact⟨_,_,h.2.2.2.2.2.1⟩
 ·have key:∀N,0<(sumTo N λi=>(K i).late)->∃i,i<N/\(K i).late≠0:=by
   intro N;induction N with
   |zero=>intro h;exact absurd h (by simp[sumTo])
   |succ N ih=>
    intro h;by_cases h0:(K N).late=0
    ·simp only[sumTo,h0]at h;obtain⟨i,hi,hl⟩:=ih (by omega);exact⟨i,by omega,hl⟩
    ·exact⟨N,by omega,h0⟩
  have:=key gs.size (by have:=h.2.2.1;omega);obtain⟨i,hi,hl⟩:=this;cases lh:K i<;>rw[lh]at hl<;>first
   |exact⟨_,_,h.2.2.2.2.2.1 i hi (by rw[lh];exact .inl rfl)⟩
   |exact⟨_,_,h.2.2.2.2.2.1 i hi (by rw[lh];exact .inr rfl)⟩
   |exact⟨_,_,h.2.2.2.2.2.2 i hi (by rw[lh];rfl)⟩
   |exact absurd rfl hl
 ·exact⟨_,_,h.2.2.2.2.1⟩
 ·exact⟨_,_,h.2.2.2.2.1⟩
 ·exfalso;rcases hk with hk|hk<;>rw[hk]at h<;>rcases h.2.2.2.2 with h|h<;>cases h
 ·exfalso;rcases hk with hk|hk<;>rw[hk]at h<;>cases h.2.2.2
theorem Inv.counted(h:Inv P n0 W0 V gs w t K Im ic (some p) st){i:Nat}(_hi:0<i)(hlt:i<gs.size)(hk:(K i).cnt=1):(∃n,w.heap[p.c]?=some (.chan 0 #[] false n n false))/\st=some .early:=by
 have gN:=h.phase;obtain⟨_,_,_,_,_,_,_,_,_,hx⟩:=gN;by_cases hr:p.recv=true
 ·rw[if_pos hr]at hx;obtain⟨_,_,_,s,hs,hm⟩:=hx;have hle:(K i).cnt<=sumTo gs.size λi=>(K i).cnt:=WG (f:=λi=>(K i).cnt) hlt;rcases hm with h|h|h|h|h|h|h
  ·exact⟨h.1,by rw[hs,h.2.1]⟩
  ·exact⟨h.1,by rw[hs,h.2.1]⟩
  ·exact⟨h.1,by rw[hs,h.2.1]⟩
  ·exact⟨h.1,by rw[hs,h.2.1]⟩
  ·exact⟨h.1,by rw[hs,h.2.1]⟩
  ·have:=h.2.2.2.1;omega
  ·have:=h.2.2.1;omega
 ·rw[if_neg hr]at hx;have:=(h.core.sat 0 h.pos).own p.c _ (by simp only[bL,if_true];exact hx.1);exact⟨⟨0,this⟩,hx.2.2.1⟩
theorem Inv.OK(h:Inv P n0 W0 V gs w t K Im ic (some p) st){i:Nat}{k':GS}{gs':Array SG}{t':Uq}(aY:gs'.size=gs.size)(iX:w.heap.size<=w'.heap.size)(hb:jz p (k'.view Im))(yL:k'.nG=true->i=ic)
  (cY:k'.idx=(K i).idx\/(k'.idx=none/\∀j,(K i).idx=some j->p.Ss[j]?=some []))
  (dS:if p.recv then∃s,st'=some s/\Mode P p.c p.Wg gs.size w' gs' t' (upd K i k') ic s
    else st'=some .early/\k'.idx.isSome=true/\k'.cnt=(K i).cnt):Ai P n0 V gs' w' t' (upd K i k') Im ic (some p) st':=by
 obtain⟨a1,a2,a3,a4,a5,a6,a7,a8,a9,b9⟩:=h.phase;have iw:∀j m,((upd K i k') j).idx=some m->(K j).idx=some m:=by
  intro j m hj;by_cases cx:j=i
  ·subst cx;rw[bB]at hj;rcases cY with x|⟨x,_⟩
   ·rw[<- x];exact hj
   ·rw[x]at hj;cases hj
  ·rw[bf _ _ cx]at hj;exact hj
 refine⟨a1,a2,a3,Tg a4 iX,Tg a5 iX,a6,λj hj=> ?_,λj j' m b1 b2 b3 b4 b5 b6=>a8 j j' m b1 (aY▸b2) b3 (aY▸b4) (iw _ _ b5) (iw _ _ b6),λj S b1 b2=> ?_,?_⟩
 ·by_cases cx:j=i
  ·subst cx;rw[bB];exact⟨hb.1,hb.2.1,hb.2.2.1,hb.2.2.2,yL⟩
  ·rw[bf _ _ cx];exact a7 j hj
 ·obtain⟨m,c1,c2,c3⟩:=a9 j S b1 b2;refine⟨m,c1,by rw[aY];exact c2,?_⟩;by_cases cV:m=i
  ·subst cV;rw[bB];rcases cY with x|⟨_,x⟩
   ·rw[x];exact c3
   ·have:=x j c3;rw[this]at b1;cases b1;exact absurd rfl b2
  ·rw[bf _ _ cV];exact c3
 ·split
  ·rename_i aI;rw[if_pos aI]at b9 dS;obtain⟨c1,c2,c3,_⟩:=b9;exact⟨c1,c2,by rw[aY];exact c3,by rw[aY];exact dS⟩
  ·rename_i aI;rw[if_neg aI]at b9 dS;obtain⟨c1,c2,_,c4,c5⟩:=b9;refine⟨c1,c2,dS.1,λj b1 b2=> ?_,c5.1,by rw[aY,lH K k' GS.cnt dS.2.2];exact c5.2⟩;by_cases cx:j=i
   ·subst cx;rw[bB];exact .inl dS.2.1
   ·rw[bf _ _ cx];exact c4 j b1 (aY▸b2)
theorem Inv.aeY(h:Inv P n0 W0 V gs w t K Im ic (some p) st){i j:Nat}{gi bF:SG}{es:Array Uu}{hh h':Ht}{Vi V':View}(hi:0<i)(aO:gs[i]?=some gi)(hK:K i=.work j hh Vi)(aP:stepG P false gi w=.go bF w' es)
  (s:di Vi w V' w' es) (hk:lL P h' V' bF) (mr:Co h' hh):gE P n0 W0 V gs w sl t K Im ic (some p) st i:=by
 have hlt:i<gs.size:=(SS.1 aO).1;have dl:=h.is i gi hi aO;simp only[hK,GS.is]at dl;obtain⟨hd,_,S,hS,jo⟩:=dl;have gX:(K i).cnt=1:=by rw[hK];rfl
 obtain⟨⟨n,gM⟩,ly⟩:=h.counted hi hlt gX;have iy:=h.low;have cO:jz p Vi:=by have:=h.blind hi;rw[hK]at this;exact this
 have alj:=cO.step s iy.1 iy.2;have mz:bL V Im K i=Vi:=by simp[bL,hK,GS.view];omega
 have ff:w'.heap[p.c]?=w.heap[p.c]?:=s.frame p.c iy.1 cO.1;have hWh:w'.heap[p.Wg]?=w.heap[p.Wg]?:=s.frame p.Wg iy.2 cO.2.2.1;have lW:∀m,((upd K i (.work j h' V')) m).shape=(K m).shape:=λm=>by
  by_cases hm:m=i
  ·subst hm;rw[bB,hK];rfl
  ·rw[bf _ _ hm]
 have cY:∀m,((upd K i (.work j h' V')) m).idx=(K m).idx:=λm=>by rw[<- GS.HY,lW,GS.HY]
 have pE:∀m,((upd K i (.work j h' V')) m).cnt=(K m).cnt:=λm=>by rw[<- GS.nH,lW,GS.nH]
 have w_:∀m,((upd K i (.work j h' V')) m).late=(K m).late:=λm=>by rw[<- GS.mD,lW,GS.mD]
 have cq:V'.role=Vi.role:=s.role;refine h.next (k':=.work j h' V') (st':=st) hi aO aP ⟨by rw[hd,s.deaf],hk,S,hS,cq.trans jo⟩ (λx=>by rw[hk.running]at x;cases x) (λq hq=>by cases hq;exact .inl ⟨n,by rw[ff];exact gM⟩) ?_ ?_ ?_ ?_ ?_
 ·rw[PH V Im K hi];refine(Core.step (V':=V') h.core hlt (by rw[mz];exact s) (λe he x hx hs=> ?_) gi.frame.fn gi.frame.place).CM λm hm=> ?_
  ·exfalso;rcases(KL (s.fq e he) hx).1 with y|⟨y,_⟩|y
   ·exact cO.BH y.rd hs
   ·exact cO.BH y hs
   ·exact y (adS iy.1 iy.2 hs)
  ·simpa only[nw,jf,cY,pE,w_]using hm
 ·rw[ly];have hr:Rest (Cc (some p)) t K ic st:=h.out.2.2.1;rw[ly]at hr;refine hr.app (λidx a ha hx=> .inr (hx.app (by obtain⟨op,ay,_⟩:=U6 ha;exact TP ay) λm _ _ hm=> .inl (by rw[cY];exact hm))) (λidx a _ ⟨op,ay,yU,_⟩ _=> .inr (.inr ⟨i,?_,hi,.inl ?_⟩))
  ·obtain⟨e,_,rfl⟩:=TU ay;simp[WE,yU]
  ·rw[bB];rfl
 ·refine h.OK (by simp) s.size alj (λx=>by cases x) (.inl (by rw[hK];rfl)) ?_;have hx:=h.phase.2.2.2.2.2.2.2.2.2;split
  ·rename_i aI;rw[if_pos aI]at hx;obtain⟨_,_,_,s',pP,hm⟩:=hx;exact⟨s',pP,hm.keep lW ff hWh λsf=>ads hlt hk.running sf⟩
  ·exact⟨ly,rfl,by rw[hK];rfl⟩
 ·rw[hK];refine .inr ⟨by simp[GS.c9,cq],.inl mr⟩
 ·intro g c L4;have ho:Ah w' c:=⟨n,by rw[<- L4 p rfl,ff];exact gM⟩;exact⟨Ol hi,λjn _=> .inr ⟨OI hi jn ho,ho⟩⟩
end
def od (V:View)(I':cC)(O':Cz)(r:nm):View:=
 {V with ah:=λb o=>match V.ah b o with|some x=>some x|none=>I' b o,own:=λb=>match V.own b with|some x=>some x|none=>O' b,role:=r}
def ma (B:Nat->Bool)(U:View):Cz:=λb=>if B b then U.own b else none
def l7 (B:Nat->Bool)(U:View)(r:nm):View:={U with own:=λb=>if B b then none else U.own b,role:=r}
section
variable {P:SI}{n0:Nat}{W0:Tq}{V:View}{gs gs':Array SG}{w w':Tq}{sl:Option (Nat×Nat)}{t:Uq}{K:Nat->GS}{Im:cC}{ic:Nat}{p:Phase}{st:Option eA}
theorem acS{k:GS}{d:Nat}{x:SG}(h:k.is P p.c p.Wg Im p.Ss d x)(r:Nat):offersAt x r false=[]:=by
 rcases GS.runs h with hr|⟨hf,_⟩|⟨j,h',V,V',g0,v,z,rfl⟩|⟨_,hb,ho⟩
 ·exact U7 (by rw[hr];simp) r false
 ·exact U7 (by rw[hf];simp) r false
 ·obtain⟨_,_,rfl,_⟩:=h;exact offersAt_parked_send' _ _ _ _ _ _
 ·unfold offersAt;simp[hb,ho]
theorem aoL{g:SG}(h:kD gs g){x:SG}(hx:gs[0]?=some x)(r:Nat)(s:Bool):offersAt x r s=[]:=by
 obtain⟨g0,h0,h1,_⟩:=h;rw[h0]at hx;cases hx;exact U7 (by rw[h1];simp) r s
theorem Inv.auc(h:Inv P n0 W0 V gs w t K Im ic (some p) st){g:SG}(hm:kD gs g){i j:Nat}{gi:SG}{hh h':Ht}{Vi V₁:View}{sp:Spec}{S:List Spec}{v z:SP}{B:Nat->Bool}(hi:0<i)(aO:gs[i]?=some gi)
  (hK:K i=.work j hh Vi) (hg:dY Vi V₁) (hr:V₁.role=.work p.c p.Wg (sp::S)) (hd:V₁.deaf=0) (aP:stepG P false gi w=.comm gi #[scase p.c v z] true .send w #[])
  (qT:sp v V₁.ah (ma B V₁)) (hk:lL P h' (l7 B V₁ (.work p.c p.Wg S)) (Ua gi undef)):gE P n0 W0 V gs w sl t K Im ic (some p) st i:=by
 have hlt:i<gs.size:=(SS.1 aO).1;have dl:=h.is i gi hi aO;simp only[hK,GS.is]at dl;obtain⟨bC,_,S',hS,jo⟩:=dl;have gX:(K i).cnt=1:=by rw[hK];rfl
 obtain⟨⟨n,gM⟩,ly⟩:=h.counted hi hlt gX;have eX:(i==0)=false:=by simp;omega
 have er:nm.work p.c p.Wg S'=.work p.c p.Wg (sp::S):=by rw[<- jo,<- hg.role,hr]
 cases er;let k':GS:=.oq j h' V₁ (l7 B V₁ (.work p.c p.Wg S)) gi v z;have hw:=crowd_waits (P:=P) (sl:=sl) (i:=i) aO (by rw[eX];exact aP) (λcc jk=>by
  simp only[TQ,SK,SZ,or_false]at jk;subst jk;refine ways_send_none gM (by simp) (partners_nil λm x hx=> ?_);rcases Yj gs i m x hx with⟨_,rfl⟩|⟨_,jL⟩
  ·exact Zy _ _
  ·rcases UL m with rfl|g_
   ·exact aoL hm jL _ _
   ·exact acS (h.is m x g_ jL) _)
 have mz:bL V Im K i=Vi:=by simp[bL,hK,GS.view];omega
 have cO:jz p Vi:=by have:=h.blind hi;rw[hK]at this;exact this
 have cY:∀m,((upd K i k') m).idx=(K m).idx:=λm=>by
  by_cases hm:m=i
  ·subst hm;rw[bB,hK];rfl
  ·rw[bf _ _ hm]
 have lW:∀m,((upd K i k') m).shape=(K m).shape:=λm=>by
  by_cases hm:m=i
  ·subst hm;rw[bB,hK];rfl
  ·rw[bf _ _ hm]
 have pE:∀m,((upd K i k') m).cnt=(K m).cnt:=λm=>by rw[<- GS.nH,lW,GS.nH]
 have w_:∀m,((upd K i k') m).late=(K m).late:=λm=>by rw[<- GS.mD,lW,GS.mD]
 have e0:t++Tc i gi.frame.fn gi.frame.place #[]=t:=by simp[Tc]
 have aY:(gs.setIfInBounds i (parked gi #[scase p.c v z] .send)).size=gs.size:=by simp
 refine⟨_,w,_,upd K i k',st,hw,aY,?_,λg' c _=>⟨λ⟨g0,a,b⟩=>⟨g0,by rw[SX (by omega)];exact a,b⟩,λ⟨g0,z',a,b⟩ ho=> .inr ⟨⟨g0,z',by rw[SX (by omega)];exact a,b⟩,ho⟩⟩,λg' c ⟨g1,z',a,_⟩ _=>(by obtain⟨g0,h0,h1,_⟩:=hm;rw[a]at h0;cases h0;cases h1),
  .inl ⟨i,hlt,?_,λm hm=>by show (upd K i k' m).c9=(K m).c9;rw[bf _ _ hm]⟩⟩
 ·rw[e0];refine Inv.mk' (by rw[aY];exact h.pos) (by rw[bf _ _ (by omega)];exact h.k0) h.d0 (λm x hm hx=> ?_) ?_ ?_ ?_
  ·by_cases cV:m=i
   ·subst cV;rw[Tb hlt]at hx;cases hx;rw[bB];exact⟨by rw[bC,<- hg.deaf,hd],hd,rfl,hk,sp,S,B,hS,hr,qT,rfl⟩
   ·rw[SX (Ne.symm cV)]at hx;rw[bf _ _ cV];exact h.is m x hm hx
  ·rw[aY,PH V Im K hi];exact(Core.ghost (V':=V₁) h.core hlt (by rw[mz];exact hg)).CM λm hm=>by simpa only[nw,jf,cY,pE,w_]using hm
  ·have hr:Rest (Cc (some p)) t K ic st:=h.out.2.2.1;rw[ly]at hr⊢;have:=hr.app (u:=#[]) (K':=upd K i k') (s':=.early) (λidx a ha hx=> .inr (hx.app (by obtain⟨op,ay,_⟩:=U6 ha;exact TP ay) λm _ _ hm=> .inl (by rw[cY];exact hm))) (λidx a _ ⟨op,ay,_⟩ _=>by simp at ay);simpa using this
  ·refine h.OK aY (SO _) (cO.ghost hg) (λx=>by cases x) (.inl (by rw[hK];rfl)) ?_;have hx:=h.phase.2.2.2.2.2.2.2.2.2;split
   ·rename_i aI;rw[if_pos aI]at hx;obtain⟨_,gq,_,s',pP,fY⟩:=hx;refine⟨s',pP,?_⟩;have:=fY.keep (w':=w) (gs':=gs.setIfInBounds i (parked gi #[scase p.c v z] .send)) (u:=#[]) lW rfl rfl λsf x hx=>by
     by_cases fW:ic=i
     ·subst fW;exfalso;unfold Mode at fY;have aH:∀s:GS,(K ic).shape=s->s=.work j .z noView:=λs e=>(by rw[<- e,hK];rfl);rcases fY with h|h|h|h|h|h|h
      ·rcases h.2.2.2.2.2 with⟨_,e,_⟩|⟨_,e,_⟩<;>cases aH _ e
      ·rcases h.2.2.2.2.2.2 with e|e<;>cases aH _ e
      ·rcases h.2.2.2.2.1 with e|e<;>cases aH _ e
      ·rcases h.2.2.2.2.2.2 with e|e<;>cases aH _ e
      ·rcases h.2.2.2.2.2 with e|e<;>cases aH _ e
      ·rcases h.2.2.2.2 with e|e<;>cases aH _ e
      ·cases aH _ h.2.2.2
     ·rw[SX (Ne.symm fW)]at hx;exact sf x hx
    simpa using this
   ·exact⟨ly,rfl,by rw[hK];rfl⟩
 ·show rC (upd K i k' i).c9 (K i).c9;rw[hK];refine .inl ?_;simp only[bB,k',GS.c9,hr,jo];omega
theorem Mode.anJ{c Wg N:Nat}{u:Uq}{K':Nat->GS}{s:eA}(h:Mode P c Wg N w gs t K ic s)(gX:1<=sumTo N λi=>(K i).cnt)(hs:∀j,(K' j).shape=(K j).shape)(ho:∃n,w'.heap[c]?=some (.chan 0 #[] false n n false)) (hW:w'.heap[Wg]?=w.heap[Wg]?):Mode P c Wg N w' gs' (t++u) K' ic s:=by
 have e1:sumTo N (λi=>(K' i).cnt)=sumTo N λi=>(K i).cnt:=Vv λi _=>by rw[<- GS.nH,hs i,GS.nH]
 have e2:sumTo N (λi=>(K' i).late)=sumTo N λi=>(K i).late:=Vv λi _=>by rw[<- GS.mD,hs i,GS.mD]
 have e3:∀st sm,WgAt P Wg w' st sm=WgAt P Wg w st sm:=λst sm=>by unfold WgAt;rw[hW]
 unfold Mode at h⊢;simp only[e1,e2,e3,hs];rcases h with h|h|h|h|h|h|h
 ·exact .inl ⟨ho,h.2⟩
 ·exact .inr (.inl ⟨ho,h.2⟩)
 ·have:=h.2.2.2.1;omega
 ·have:=h.2.2.2.1;omega
 ·have:=h.2.2.2.1;omega
 ·have:=h.2.2.2.1;omega
 ·have:=h.2.2.1;omega
theorem Inv.met(h:Inv P n0 W0 V gs w t K Im ic (some p) st)(aI:p.recv=true)(gI:V.deaf=0){i j:Nat}{h':Ht}{V₁:View}{gi:SG}{sp:Spec}{S:List Spec}{B:Nat->Bool}(hi:0<i)(hlt:i<gs.size)
  (yV:(K i).idx=some j) (hg:dY ((K i).view Im) V₁) (hr:V₁.role=.work p.c p.Wg (sp::S)) (hd:V₁.deaf=0) (kJ:U4 t i=0) (hS:p.Ss[j]?=some (sp::S))
  (hk:lL P h' (l7 B V₁ (.work p.c p.Wg S)) (Ua gi undef)) (aY:gs'.size=gs.size) (aO:gs'[i]?=some (Ua gi undef)) (hgo:∀m,m≠i->0<m->gs'[m]?=gs[m]?)
  {u:Uq} {x0 x1 x2 x3:Wi} (hu:u=#[x0,x1,x2,x3]) {s:Nat} (h0:x0.g=i/\x0.act=.send p.c s) (h1:x1.g=0/\x1.act=.recv p.c s 0) (h2:x2.g=i/\x2.act=.sendDone p.c s) (h3:x3.g=0/\x3.act=.recvDone p.c s)
  (bH:w'.heap.size=w.heap.size) (ep:∀b,b≠p.c->w'.heap[b]?=w.heap[b]?) (j4:∃n,w'.heap[p.c]?=some (.chan 0 #[] false n n false)) (m9:w'.tape=w.tape) (Nq:w'.os=w.os) (hw6:w'.output=w.output):
  (∀b,V.own b≠none->ma B V₁ b=none)/\(∀b o,V.own b≠none->V₁.ah b o≠none->V.ah b o≠none)/\
  Inv P n0 W0 (od V V₁.ah (ma B V₁) (.recv p.c p.Wg (p.Ss.set j S))) gs' w' (t++u) (upd K i (.work j h' (l7 B V₁ (.work p.c p.Wg S)))) Im ic (some {p with Ss:=p.Ss.set j S}) st:=by
 obtain⟨dl,hc,lV,gN⟩:=h.out;obtain⟨a1,a2,a3,a4,a5,a6,a7,a8,a9,b9⟩:=gN;rw[if_pos aI]at b9;obtain⟨⟨c1,c2,c3,c4⟩,c5,c6,s',c7,c8⟩:=b9;have Dw:jz p V:=⟨c1,c2,c3,c4⟩;have wP:=(h.blind hi).ghost hg;have mz:bL V Im K i=(K i).view Im:=by simp[bL];omega
 have si:bL V Im K 0=V:=by simp[bL]
 have dt:Core (upd (bL V Im K) i V₁) gs.size w t (sH (some p)) (nw (some p) gs.size ic K) ic n0 W0:=hc.ghost hlt (by rw[mz];exact hg);have dT:Sat V₁ w:=by have:=dt.sat i hlt;rwa [bB]at this
 have dg:Sat V w:=by have:=dt.sat 0 h.pos;rwa [bf _ _ (by omega),si]at this
 have Gj:jO V V₁:=by have:=dt.dP 0 i h.pos hlt (by omega);rwa [bf _ _ (show 0≠i by omega),bB,si]at this
 have Rt:jO V₁ V:=by have:=dt.dP i 0 hlt h.pos (by omega);rwa [bB,bf _ _ (show 0≠i by omega),si]at this
 have alN:∀b,V.own b≠none->ma B V₁ b=none:=λb hb=>by
  unfold ma;split
  ·exact(Gj b hb).1
  ·rfl
 refine⟨alN,λb o hb=>(Gj b hb).2 o,?_⟩;have jI:∀op∈u,op.act.touch?=none/\still op.act/\(op.g=0\/op.g=i)/\op.act.low w.heap.size/\∀a,op.act≠ .mark (.release a):=by
  intro op ay;rw[hu]at ay;simp only[TQ,SK,SZ,or_false]at ay;rcases ay with rfl|rfl|rfl|rfl
  ·rw[h0.2,h0.1];exact⟨rfl,⟨by simp,by simp⟩,.inr rfl,a4,by simp⟩
  ·rw[h1.2,h1.1];exact⟨rfl,⟨by simp,by simp⟩,.inl rfl,a4,by simp⟩
  ·rw[h2.2,h2.1];exact⟨rfl,⟨by simp,by simp⟩,.inr rfl,a4,by simp⟩
  ·rw[h3.2,h3.1];exact⟨rfl,⟨by simp,by simp⟩,.inl rfl,a4,by simp⟩
 have n3:∀op∈u,still op.act:=λop ay=>(jI op ay).2.1;have vb:∀m,U4 (t++u) m=U4 t m:=λm=>Deaf_still n3;have d00:U4 t 0=0:=by rw[h.d0,gI]
 have eo:∀idx,Wq t i idx->Wq (t++u) 0 idx:=λidx hx=>aoT hu h0 (jI x1 (by rw[hu];simp)).2.1 (jI x2 (by rw[hu];simp)).2.1 h3 kJ d00 hx;let k':GS:=.work j h' (l7 B V₁ (.work p.c p.Wg S));let V':View:=od V V₁.ah (ma B V₁) (.recv p.c p.Wg (p.Ss.set j S));have cY:∀m,((upd K i k') m).idx=(K m).idx:=λm=>by
  by_cases hm:m=i
  ·subst hm;rw[bB,yV];rfl
  ·rw[bf _ _ hm]
 have dJ:(K i).shape=.work j .z noView:=by
  cases lh:K i<;>rw[lh]at yV<;>simp[GS.idx]at yV
  ·subst yV;rfl
  ·subst yV;rfl
 have lW:∀m,((upd K i k') m).shape=(K m).shape:=λm=>by
  by_cases hm:m=i
  ·subst hm;rw[bB,dJ];rfl
  ·rw[bf _ _ hm]
 have pE:∀m,((upd K i k') m).cnt=(K m).cnt:=λm=>by rw[<- GS.nH,lW,GS.nH]
 have w_:∀m,((upd K i k') m).late=(K m).late:=λm=>by rw[<- GS.mD,lW,GS.mD]
 have gX:(K i).cnt=1:=by rw[<- GS.nH,dJ];rfl
 have ly:=(h.counted hi hlt gX).2;have sQ:bL V' Im (upd K i k') 0=V':=by simp[bL]
 have xM:bL V' Im (upd K i k') i=l7 B V₁ (.work p.c p.Wg S):=by simp[bL,bB,k',GS.view];omega
 have xN:∀m,m≠0->m≠i->bL V' Im (upd K i k') m=upd (bL V Im K) i V₁ m:=λm h1 h2=>by simp[bL,bf _ _ h2,h1]
 have EX:upd (bL V Im K) i V₁ 0=V:=by rw[bf _ _ (by omega),si]
 have xw:upd (bL V Im K) i V₁ i=V₁:=bB _ _ _;have kH:∀{U:View},jz p U->Sat U w->Sat U w':=λ{U} hb hs=>⟨λb o v e=>by
   have aH:b≠p.c:=λx=>(by rw[x,hb.2.1 o]at e;cases e);have:=hs.ah b o v e;simp only[UC,ep b aH]at this⊢;exact this,λb x e=>by
   have aH:b≠p.c:=λy=>(by rw[y,hb.1]at e;cases e);rw[ep b aH];exact hs.own b x e⟩
 have am1:Sat V' w:=⟨λb o v e=>by
   simp only[V',od]at e;split at e
   ·rename_i x hx;cases e;exact dg.ah b o _ hx
   ·exact dT.ah b o v e,λb x e=>by
   simp only[V',od]at e;split at e
   ·rename_i y hy;cases e;exact dg.own b _ hy
   ·unfold ma at e;split at e
    ·exact dT.own b x e
    ·cases e⟩
 have Dx:jz p V':=⟨by simp[V',od,c1,ma,wP.1],λo=>by simp[V',od,c2,wP.2.1],by simp[V',od,c3,ma,wP.2.2.1],λo=>by simp[V',od,c4,wP.2.2.2]⟩;have hsK:Sat (l7 B V₁ (.work p.c p.Wg S)) w:=⟨dT.ah,λb x e=>by
   simp only[l7]at e;split at e
   ·cases e
   ·exact dT.own b x e⟩
 have Dv:jz p (l7 B V₁ (.work p.c p.Wg S)):=⟨by simp[l7,wP.1],wP.2.1,by simp[l7,wP.2.2.1],wP.2.2.2⟩;have BN:∀b,V'.own b≠none->V.own b≠none\/(B b=true/\V₁.own b≠none):=λb hb=>by
  simp only[V',od]at hb;split at hb
  ·rename_i y hy;exact .inl (by rw[hy];simp)
  ·unfold ma at hb;split at hb
   ·rename_i hB;exact .inr ⟨hB,hb⟩
   ·exact absurd rfl hb
 have vI:∀b o,V'.ah b o≠none<->(V.ah b o≠none\/V₁.ah b o≠none):=λb o=>by
  simp only[V',od];cases e:V.ah b o with
  |some x=>simp
  |none=>simp
 have BO:∀b,(l7 B V₁ (.work p.c p.Wg S)).own b≠none->B b=false/\V₁.own b≠none:=λb hb=>by
  simp only[l7]at hb;split at hb
  ·exact absurd rfl hb
  ·rename_i hB;exact⟨by simpa using hB,hb⟩
 have yN:Core (bL V' Im (upd K i k')) gs.size w' (t++u) (sH (some p)) (nw (some p) gs.size ic K) ic n0 W0:=by
  refine⟨λm hm=> ?_,λa b ha hb gJ=> ?_,?_,m9.trans hc.tape,Nq.trans hc.os,hw6.trans hc.out,λb hb=>(ep b (by omega)).trans (hc.old b hb),λm hm b hb=> ?_,by rw[bH];exact hc.n0⟩
  ·by_cases g_:m=0
   ·subst g_;rw[sQ];exact kH Dx am1
   ·by_cases cV:m=i
    ·subst cV;rw[xM];exact kH Dv hsK
    ·rw[xN m g_ cV,bf _ _ cV];have:=hc.sat m hm;refine kH ?_ this;have e:bL V Im K m=(K m).view Im:=(by simp[bL,g_]);rw[e];exact h.blind (by omega)
  ·
   have dm:∀m,m<gs.size->m≠0->m≠i->jO (upd (bL V Im K) i V₁ m) V/\jO V (upd (bL V Im K) i V₁ m)/\jO (upd (bL V Im K) i V₁ m) V₁/\jO V₁ (upd (bL V Im K) i V₁ m):=λm hm h1 h2=>
    ⟨by have:=dt.dP m 0 hm h.pos h1;rwa [EX]at this,by have:=dt.dP 0 m h.pos hm (Ne.symm h1);rwa [EX]at this,by have:=dt.dP m i hm hlt h2;rwa [xw]at this,by have:=dt.dP i m hlt hm (Ne.symm h2);rwa [xw]at this⟩
   by_cases AY:a=0
   ·subst AY;by_cases eD:b=i
    ·subst eD;rw[sQ,xM];intro q hq;rcases BN q hq with x|⟨hB,x⟩
     ·refine⟨?_,λo ho=>(vI q o).2 (.inl ((Gj q x).2 o ho))⟩;simp only[l7];split
      ·rfl
      ·exact(Gj q x).1
     ·refine⟨by simp only[l7,hB,if_true],λo ho=>(vI q o).2 (.inr ho)⟩
    ·have qF:b≠0:=Ne.symm gJ;rw[sQ,xN b qF eD];obtain⟨_,e2,_,e4⟩:=dm b hb qF eD;intro q hq;rcases BN q hq with x|⟨_,x⟩
     ·exact⟨(e2 q x).1,λo ho=>(vI q o).2 (.inl ((e2 q x).2 o ho))⟩
     ·exact⟨(e4 q x).1,λo ho=>(vI q o).2 (.inr ((e4 q x).2 o ho))⟩
   ·by_cases nO:a=i
    ·subst nO;by_cases qF:b=0
     ·subst qF;rw[sQ,xM];intro q hq;obtain⟨hB,x⟩:=BO q hq;refine⟨?_,λo ho=> ?_⟩
      ·simp only[V',od,(Rt q x).1,ma,hB];rfl
      ·rcases(vI q o).1 ho with y|y
       ·exact(Rt q x).2 o y
       ·exact y
     ·rw[xM,xN b qF (Ne.symm gJ)];obtain⟨_,_,_,e4⟩:=dm b hb qF (Ne.symm gJ);intro q hq;exact e4 q (BO q hq).2
    ·rw[xN a AY nO];obtain⟨e1,e2,e3,e4⟩:=dm a ha AY nO;by_cases qF:b=0
     ·subst qF;rw[sQ];intro q hq;refine⟨?_,λo ho=>((vI q o).1 ho).elim ((e1 q hq).2 o) ((e3 q hq).2 o)⟩;simp only[V',od,(e1 q hq).1,ma,(e3 q hq).1,ite_self]
     ·by_cases eD:b=i
      ·subst eD;rw[xM];intro q hq;refine⟨?_,(e3 q hq).2⟩;simp only[l7,(e3 q hq).1,ite_self]
      ·rw[xN b qF eD];exact dt.dP a b ha hb gJ
  ·rw[bH];refine dt.ti.mute (λop ay=>(jI op ay).1) (λop ay=>(jI op ay).2.2.2.1) (λop ay=>((jI op ay).2.2.1).elim (λx=>by rw[x];exact h.pos) (λx=>by rw[x];exact hlt)) (SO _) (λop ay=>(jI op ay).2.2.2.2) (λm hm l hl idx a ha gK sk=> ?_) (λm hm l hl idx a ha gK=> ?_) (λidx a ha dJ=>⟨λhp m hm=>((dt.ti.sp idx a ha dJ).1 hp m hm).app u,λhp=>((dt.ti.sp idx a ha dJ).2 hp).app u⟩)
   ·obtain⟨_,cP,mq⟩:=hl;by_cases g_:m=0
    ·subst g_;rw[sQ]at cP;have:gT V l\/gT V₁ l:=by
      cases l with
      |cell a'=>
       rcases cP with x|x
       ·exact(BN _ x).imp .inl (λy=> .inl y.2)
       ·exact((vI _ _).1 x).imp .inr .inr
      |obj r=>exact(BN _ cP).imp id (λy=>y.2)
      |_=>exact cP.elim
     rcases this with x|x
     ·exact(dt.ti.kr 0 h.pos l ⟨h.pos,by rw[EX];exact x,mq⟩ idx a ha gK sk).app u
     ·exact eo idx (dt.ti.kr i hlt l ⟨hlt,by rw[xw];exact x,mq⟩ idx a ha gK sk)
    ·by_cases cV:m=i
     ·subst cV;rw[xM]at cP;have:gT V₁ l:=by
       cases l with
       |cell a'=>exact cP.imp (λx=>(BO _ x).2) id
       |obj r=>exact(BO _ cP).2
       |_=>exact cP.elim
      exact(dt.ti.kr m hm l ⟨hm,by rw[xw];exact this,mq⟩ idx a ha gK sk).app u
     ·rw[xN m g_ cV]at cP;exact(dt.ti.kr m hm l ⟨hm,cP,mq⟩ idx a ha gK sk).app u
   ·obtain⟨_,cP,mq⟩:=hl;by_cases g_:m=0
    ·subst g_;rw[sQ]at cP;have:jP V l\/jP V₁ l:=by
      cases l with
      |cell a'=>
       have fV:V.ah a'.block a'.off=none:=by
        cases e:V.ah a'.block a'.off with
        |none=>rfl
        |some x=>exact absurd cP.2 ((vI _ _).2 (.inl (by rw[e];simp)))
       have vg:V₁.ah a'.block a'.off=none:=by
        cases e:V₁.ah a'.block a'.off with
        |none=>rfl
        |some x=>exact absurd cP.2 ((vI _ _).2 (.inr (by rw[e];simp)))
       exact(BN _ cP.1).imp (λx=>⟨x,fV⟩) (λx=>⟨x.2,vg⟩)
      |obj r=>exact(BN _ cP).imp id (λy=>y.2)
      |_=>exact cP.elim
     rcases this with x|x
     ·exact(dt.ti.kw 0 h.pos l ⟨h.pos,by rw[EX];exact x,mq⟩ idx a ha gK).app u
     ·exact eo idx (dt.ti.kw i hlt l ⟨hlt,by rw[xw];exact x,mq⟩ idx a ha gK)
    ·by_cases cV:m=i
     ·subst cV;rw[xM]at cP;have:jP V₁ l:=by
       cases l with
       |cell a'=>exact⟨(BO _ cP.1).2,cP.2⟩
       |obj r=>exact(BO _ cP).2
       |_=>exact cP.elim
      exact(dt.ti.kw m hm l ⟨hm,by rw[xw];exact this,mq⟩ idx a ha gK).app u
     ·rw[xN m g_ cV]at cP;exact(dt.ti.kw m hm l ⟨hm,cP,mq⟩ idx a ha gK).app u
  ·by_cases g_:m=0
   ·subst g_;rw[sQ];have e1:=dt.ju 0 h.pos b hb;have e2:=dt.ju i hlt b hb;rw[EX]at e1;rw[xw]at e2;simp[V',od,e1,ma,e2]
   ·by_cases cV:m=i
    ·subst cV;rw[xM];have e2:=dt.ju m hm b hb;rw[xw]at e2;simp[l7,e2]
    ·rw[xN m g_ cV];exact dt.ju m hm b hb
 refine Inv.mk' (by rw[aY];exact h.pos) (by rw[bf _ _ (by omega)];exact h.k0) (by rw[vb];exact h.d0) (λm x hm hx=> ?_) ?_ ?_ ?_
 ·show (upd K i k' m).is P p.c p.Wg Im (p.Ss.set j S) (U4 (t++u) m) x;rw[vb];by_cases cV:m=i
  ·subst cV;rw[aO]at hx;cases hx;rw[bB];have dn:j<p.Ss.length:=(SL.1 hS).1;exact⟨by rw[kJ];exact hd.symm,hk,S,by simp[Xg dn],rfl⟩
  ·rw[hgo m cV hm]at hx;rw[bf _ _ cV];have Bz:=dl m x hm hx;have yY:m<gs.size:=(SS.1 hx).1;have aH:(K m).idx≠some j:=λe=>cV (a8 m i j hm yY hi hlt e yV);cases LD:K m with
   |work j2 h2 V2=>
    rw[LD]at Bz aH;obtain⟨b1,b2,S2,b3,b4⟩:=Bz;exact⟨b1,b2,S2,by rw[Ud (λe=>aH (by rw[e];rfl))];exact b3,b4⟩
   |oq j2 h2 V2 V3 g2 v2 z2=>
    rw[LD]at Bz aH;obtain⟨b1,b2,b3,b4,sp2,S2,B2,b5,b6⟩:=Bz;exact⟨b1,b2,b3,b4,sp2,S2,B2,by rw[Ud (λe=>aH (by rw[e];rfl))];exact b5,b6⟩
   |_=>rw[LD]at Bz;exact Bz
 ·rw[aY];refine yN.CM λm hm=> ?_;have fY:jf p gs.size ic (upd K i k') m:=hm;show jf p gs.size ic K m;unfold jf at fY⊢;rw[cY,pE,w_]at fY;exact fY
 ·show Rest p.Wg (t++u) (upd K i k') ic st;have za:Rest p.Wg t K ic st:=lV;rw[ly]at za⊢;exact za.app (λidx a ha hx=> .inr (hx.app (by obtain⟨op,ay,_⟩:=U6 ha;exact TP ay) λm _ _ hm=> .inl (by rw[cY];exact hm))) (λidx a _ ⟨op,ay,_,hx⟩ _=>by rw[(jI op ay).1]at hx;cases hx)
 ·refine⟨a1,a2,a3,by rw[bH];exact a4,by rw[bH];exact a5,by simpa using a6,λm hm=> ?_,λm m' q b1 b2 b3 b4 b5 b6=>a8 m m' q b1 (aY▸b2) b3 (aY▸b4) (by rw[<- cY];exact b5) (by rw[<- cY];exact b6),λq S2 b1 b2=> ?_,?_⟩
  ·by_cases cV:m=i
   ·subst cV;rw[bB];exact⟨Dv.1,Dv.2.1,Dv.2.2.1,Dv.2.2.2,λx=>by cases x⟩
   ·rw[bf _ _ cV];exact a7 m hm
  ·rw[aY];by_cases hq:q=j
   ·subst hq;exact⟨i,hi,hlt,by rw[cY];exact yV⟩
   ·have J7:p.Ss[q]?=some S2:=by
     have:=b1;rwa [show ({p with Ss:=p.Ss.set j S}:Phase).Ss=p.Ss.set j S from rfl,Ud (Ne.symm hq)]at this
    obtain⟨m,e1,e2,e3⟩:=a9 q S2 J7 b2;exact⟨m,e1,e2,by rw[cY];exact e3⟩
  ·show if p.recv=true then _ else _;rw[if_pos aI];refine⟨⟨Dx.1,Dx.2.1,Dx.2.2.1,Dx.2.2.2⟩,c5,by rw[aY];exact c6,s',c7,?_⟩;have hle:(K i).cnt<=sumTo gs.size λi=>(K i).cnt:=WG (f:=λi=>(K i).cnt) hlt;rw[aY];exact c8.anJ (by omega) lW j4 (ep _ (Ne.symm a3))
end
section
variable {P:SI}{n0:Nat}{W0:Tq}{V:View}{gs gs':Array SG}{w w':Tq}{sl:Option (Nat×Nat)}{t:Uq}{K:Nat->GS}{Im:cC}{ic:Nat}{p:Phase}{st st':Option eA}
theorem Inv.us(h:Inv P n0 W0 V gs w t K Im ic (some p) st)(aI:p.recv=true){i:Nat}{gi bF:SG}{es:Array Uu}{k':GS}{s':eA}(hi:0<i)(aO:gs[i]?=some gi)(aP:stepG P false gi w=.go bF w' es)
  (hk:k'.is P p.c p.Wg Im p.Ss (deafBehind (U4 t i) es) bF) (qL:mN (k'.view Im) ((K i).view Im))
  (yL:k'.nG=true->i=ic) (cY:k'.idx=none) (yU:∀j,(K i).idx=some j->p.Ss[j]?=some []/\∃r,Rel p.Wg (t++Tc i gi.frame.fn gi.frame.place es) i r/\t.size<=r)
  (kj:i=ic\/(K i).idx.isSome=true\/(K i).cnt=1\/(K i).late=1)
  (cm:∀e∈es,∀x,(Tt e).touch?=some x->(rE p.c p.Wg x.loc/\x.kind=.atomic)\/(rE p.c p.Wg x.loc/\x.kind=.said/\i=ic)\/(¬rE p.c p.Wg x.loc/\gT ((K i).view Im) x.loc/\x.write=false))
  (iy:∀e∈es,(Tt e).low w.heap.size) (sd:∀e∈es,∀a,Tt e≠ .mark (.release a))
  (aY:w'.heap.size=w.heap.size) (gL:∀b,b≠p.c->b≠p.Wg->w'.heap[b]?=w.heap[b]?) (ht:w'.tape=w.tape) (ho:w'.os=w.os) (hu:w'.output=w.output)
  (yZ:Mode P p.c p.Wg gs.size w' ((gs.map (woken P gi bF w')).setIfInBounds i bF) (t++Tc i gi.frame.fn gi.frame.place es) (upd K i k') ic s')
  (gM:(∃n,w'.heap[p.c]?=some (.chan 0 #[] false n n false))\/((∀j,0<j->j<gs.size->j≠i->(K j).idx=none)/\∀g,oy gs g p.c->kD ((gs.map (woken P gi bF w')).setIfInBounds i bF) g))
  (lV:Rest p.Wg (t++Tc i gi.frame.fn gi.frame.place es) (upd K i k') ic (some s'))
  (jI:Cx gs.size ((λj=>(upd K i k' j).c9),flag ((gs.map (woken P gi bF w')).setIfInBounds i bF) ic) ((λj=>(K j).c9),flag gs ic)):gE P n0 W0 V gs w sl t K Im ic (some p) st i:=by
 have hlt:i<gs.size:=(SS.1 aO).1;obtain⟨_,hc,_,hp⟩:=h.out;obtain⟨a1,a2,a3,a4,a5,a6,a7,a8,a9,b9⟩:=hp;rw[if_pos aI]at b9;obtain⟨c1,c2,c3,_⟩:=b9;have qW:bL V Im K i=(K i).view Im:=by simp[bL];omega
 have Dw:∀j,j<gs.size->jz p (bL V Im K j):=λj _=>by
  by_cases hj:j=0
  ·subst hj;rw[show bL V Im K 0=V by simp[bL]];exact⟨c1.1,c1.2.1,c1.2.2.1,c1.2.2.2⟩
  ·simp only[bL,hj,if_false];exact h.blind (by omega)
 have aay:nw (some p) gs.size ic K i:=by
  show jf p gs.size ic K i;unfold jf;rw[if_pos aI];exact⟨hi,hlt,by rcases kj with x|x|x|x;exact .inr (.inl x);exact .inl x;exact .inr (.inr (.inl x));exact .inr (.inr (.inr x))⟩
 refine h.acy (st':=some s') hi aO aP hk (λhb=> ?_) (λq hq=>by cases hq;exact gM.imp id And.left) ?_ lV ?_ jI ?_
 ·rcases GS.runs hk with x|⟨x,_⟩|⟨_,_,_,_,_,_,_,e⟩|⟨_,_,x⟩
  ·rw[x]at hb;cases hb
  ·rw[x]at hb;cases hb
  ·rw[e]at cY;cases cY
  ·exact x
 ·rw[PH V Im K hi];have dJ:=hc.us hlt (es:=es) (w':=w') (λe he x hx=>by
    rcases cm e he x hx with⟨x1,x2⟩|⟨x1,x2,x3⟩|⟨x1,x2,x3⟩
    ·exact .inl ⟨x1,x2,aay⟩
    ·exact .inr (.inl ⟨x1,x2,x3,aay⟩)
    ·exact .inr (.inr ⟨x1,.inr (.inl ⟨⟨hlt,by rw[qW];exact x2,x1⟩,x3⟩)⟩)) iy sd (λb=>b=p.c\/b=p.Wg)
   (λb hb=>by
    rcases hb with rfl|rfl
    ·exact⟨a1,λj hj=>⟨(Dw j hj).1,(Dw j hj).2.1⟩⟩
    ·exact⟨a2,λj hj=>⟨(Dw j hj).2.2.1,(Dw j hj).2.2.2⟩⟩) aY (λb hb=>gL b (λx=>hb (.inl x)) (λx=>hb (.inr x))) ht ho hu gi.frame.fn gi.frame.place
  refine(dJ.less (V':=k'.view Im) hlt (by rw[qW];exact qL)).CM λm hm=> ?_;have fY:jf p gs.size ic (upd K i k') m:=hm;show jf p gs.size ic K m;unfold jf at fY⊢;rw[if_pos aI]at fY⊢;by_cases cV:m=i
  ·subst cV;exact⟨hi,hlt,by rcases kj with x|x|x|x;exact .inr (.inl x);exact .inl x;exact .inr (.inr (.inl x));exact .inr (.inr (.inr x))⟩
  ·rw[bf _ _ cV]at fY;exact fY
 ·refine h.OK (by simp) (by omega) ?_ yL (.inr ⟨cY,λj hj=>(yU j hj).1⟩) ?_
  ·have hb:=h.blind hi;exact⟨(qL.1 _).elim id (λx=>x.trans hb.1),λo=>(qL.2.1 _ o).elim id (λx=>x.trans (hb.2.1 o)),(qL.1 _).elim id (λx=>x.trans hb.2.2.1),λo=>(qL.2.1 _ o).elim id (λx=>x.trans (hb.2.2.2 o))⟩
  ·rw[if_pos aI];exact⟨s',rfl,yZ⟩
 ·intro g c L4;refine⟨Ol hi,λjn _=> ?_⟩;rw[<- L4 p rfl]at jn⊢;rcases gM with x|⟨_,x⟩
  ·exact .inr ⟨OI hi jn x,x⟩
  ·exact .inl (x g jn)
theorem Mode.anI{c Wg N:Nat}{u:Uq}{K':Nat->GS}{s:eA}(h:Mode P c Wg N w gs t K ic s)(e1:sumTo N (λi=>(K' i).cnt)=sumTo N λi=>(K i).cnt)(e2:sumTo N (λi=>(K' i).late)=sumTo N λi=>(K i).late)
  (e4:(K' ic).shape=(K ic).shape) (e5:∀i,i<N->((K' i).shape=.load 0\/(K' i).shape=.store 0)->((K i).shape=.load 0\/(K i).shape=.store 0)) (e6:∀i,i<N->(K' i).shape=.mI 0->(K i).shape=.mI 0) (hc:w'.heap[c]?=w.heap[c]?) (hW:w'.heap[Wg]?=w.heap[Wg]?)
  (hr:(∀g,gs[ic]?=some g->g.status=.running)->∀g,gs'[ic]?=some g->g.status=.running):Mode P c Wg N w' gs' (t++u) K' ic s:=by
 have e3:∀st sm,WgAt P Wg w' st sm=WgAt P Wg w st sm:=λst sm=>by unfold WgAt;rw[hW]
 unfold Mode at h⊢;simp only[e1,e2,e3,e4,hc];rcases h with h|h|h|h|h|h|h
 ·exact .inl h
 ·exact .inr (.inl h)
 ·exact .inr (.inr (.inl ⟨h.1,h.2.1,h.2.2.1,h.2.2.2.1,h.2.2.2.2.1,λi hi x=>h.2.2.2.2.2.1 i hi (e5 i hi x),λi hi x=>h.2.2.2.2.2.2 i hi (e6 i hi x)⟩))
 ·exact .inr (.inr (.inr (.inl ⟨h.1,h.2.1,h.2.2.1,h.2.2.2.1,h.2.2.2.2.1,hr h.2.2.2.2.2.1,h.2.2.2.2.2.2⟩)))
 ·exact .inr (.inr (.inr (.inr (.inl h))))
 ·exact .inr (.inr (.inr (.inr (.inr (.inl h)))))
 ·obtain⟨⟨p,n,a,b,c',d⟩,e⟩:=h;exact .inr (.inr (.inr (.inr (.inr (.inr ⟨⟨p,n,a,by rw[Yg (Wh b)];exact b,(Wu (Wh b)).2 c',d⟩,e⟩)))))
theorem Mode.waits{c Wg N:Nat}{s:eA}(h:Mode P c Wg N w gs t K ic s):(K ic).cnt=0/\(K ic).late=0:=by
 rw[<- GS.nH,<- GS.mD];rcases h with h|h|h|h|h|h|h
 ·rcases h.2.2.2.2.2 with⟨_,e,_⟩|⟨_,e,_⟩<;>rw[e]<;>exact⟨rfl,rfl⟩
 ·rcases h.2.2.2.2.2.2 with e|e<;>rw[e]<;>exact⟨rfl,rfl⟩
 ·rcases h.2.2.2.2.1 with e|e<;>rw[e]<;>exact⟨rfl,rfl⟩
 ·rcases h.2.2.2.2.2.2 with e|e<;>rw[e]<;>exact⟨rfl,rfl⟩
 ·rcases h.2.2.2.2.2 with e|e<;>rw[e]<;>exact⟨rfl,rfl⟩
 ·rcases h.2.2.2.2 with e|e<;>rw[e]<;>exact⟨rfl,rfl⟩
 ·rw[h.2.2.2];exact⟨rfl,rfl⟩
theorem zx{i:Nat}{k':GS}{a b:Nat}(hlt:i<gs.size)(hr:rC k'.c9 (K i).c9):Cx gs.size ((λj=>(upd K i k' j).c9),a) ((λj=>(K j).c9),b):=
 .inl ⟨i,hlt,by simpa only[bB]using hr,λj hj=>by show (upd K i k' j).c9=(K j).c9;rw[bf _ _ hj]⟩
theorem Inv.mode(h:Inv P n0 W0 V gs w t K Im ic (some p) st)(aI:p.recv=true):∃s,st=some s/\0<ic/\ic<gs.size/\Mode P p.c p.Wg gs.size w gs t K ic s:=by
 have hx:=h.phase.2.2.2.2.2.2.2.2.2;rw[if_pos aI]at hx;obtain⟨_,h1,h2,s,h3,h4⟩:=hx;exact⟨s,h3,h1,h2,h4⟩
theorem ofEvents_one{i:Nat}{fn:TY}{pos:String}{e:Uu}:Tc i fn pos #[e]=#[{g:=i,fn,pos,act:=.ofEvent e}]:=by simp[Tc]
theorem Rf{t u:Uq}{g:Nat}:(t++u).deaf g t.size=U4 t g:=deaf_old (SO _)
theorem Ib(U:View):mN noView U:=⟨λ_=> .inl rfl,λ_ _=> .inl rfl,λb hb=>absurd rfl hb⟩
theorem Inv.release(h:Inv P n0 W0 V gs w t K Im ic (some p) st)(aI:p.recv=true){i j:Nat}{gi:SG}{hh:Ht}{Vi V₁:View}{c Wg:Nat}(hi:0<i)(aO:gs[i]?=some gi)(hK:K i=.work j hh Vi)(hg:dY Vi V₁)
  (hr:V₁.role=.work c Wg []) (hd:V₁.deaf=0) (hf:FQ P Wg gi):gE P n0 W0 V gs w sl t K Im ic (some p) st i:=by
 have hlt:i<gs.size:=(SS.1 aO).1;have dl:=h.is i gi hi aO;simp only[hK,GS.is]at dl;obtain⟨bC,_,S,hS,jo⟩:=dl;rw[hg.role,jo]at hr;cases hr;have gX:(K i).cnt=1:=by rw[hK];rfl
 obtain⟨⟨n,gM⟩,ly⟩:=h.counted hi hlt gX;obtain⟨s,hs,gq,iY,hm⟩:=h.mode aI;rw[ly]at hs;cases hs;obtain⟨bQ,g',lz,m,cj⟩:=hf;have aH:i≠ic:=λe=>by have:=(Mode.waits hm).1;rw[<- e,gX]at this;cases this
 have bi:U4 t i=0:=by rw[bC,<- hg.deaf,hd]
 have se:Rel p.Wg (t++Tc i gi.frame.fn gi.frame.place #[j_ (.releaseMerge (ec p.Wg))]) i t.size:=by
  rw[ofEvents_one];have e:(#[({g:=i,fn:=gi.frame.fn,pos:=gi.frame.place,act:=.ofEvent (j_ (.releaseMerge (ec p.Wg)))}:Wi)]:Uq)[0]?=some _:=rfl;have g0:=rO (t:=t) e;exact⟨am_ g0,by simp[WE,g0],heard_new e rfl (by rw[show t.size+0=t.size from rfl,Rf];exact bi)⟩
 have nV:∀e∈#[j_ (.releaseMerge (ec p.Wg))],e=j_ (.releaseMerge (ec p.Wg)):=λe he=>by simpa using he
 refine h.us aI (k':=.add m) (s':=.early) hi aO (lz w) ?_ (by rw[hK];exact Ib _) (λx=>by cases x) rfl (λj' iI=> ?_) (.inr (.inr (.inl gX))) (λe he x hx=> ?_) (λe he=> ?_) (λe he a=> ?_) rfl (λ_ _ _=>rfl) rfl rfl rfl ?_ (.inl ⟨n,gM⟩) ?_ (zx hlt ?_)
 ·show cT P (Cm P p.Wg) m _ g';rw[bi];exact cj
 ·rw[hK]at iI;cases iI;exact⟨hS,t.size,se,SO _⟩
 ·rw[nV e he]at hx;cases hx
 ·rw[nV e he];exact h.low.2
 ·rw[nV e he];simp[j_,Tt]
 ·refine hm.anI (lH K _ GS.cnt (by rw[gX];rfl)) (lH K _ GS.late (by rw[hK];rfl)) (by rw[bf _ _ (Ne.symm aH)]) (λm hm=> ?_) (λm hm=> ?_) rfl rfl (ads hlt ?_)
  ·by_cases cV:m=i
   ·subst cV;rw[bB];intro x;rcases x with x|x<;>cases x
   ·rw[bf _ _ cV];exact id
  ·by_cases cV:m=i
   ·subst cV;rw[bB];intro x;cases x
   ·rw[bf _ _ cV];exact id
  ·exact cT.running (λd g x=>x.2.1) cj
 ·have hr:Rest p.Wg t K ic st:=h.out.2.2.1;rw[ly]at hr;refine hr.app (λidx a ha hx=> .inr (hx.app (by obtain⟨op,ay,_⟩:=U6 ha;exact TP ay) λm qH _ hm=> ?_)) (λidx a _ ⟨op,ay,_,hx⟩ _=> ?_)
  ·by_cases cV:m=i
   ·subst cV;exact .inr ⟨t.size,se,by obtain⟨op,ay,_⟩:=U6 ha;exact Nat.le_of_lt (TP ay)⟩
   ·rw[bf _ _ cV];exact .inl hm
  ·rw[ofEvents_one]at ay;simp only[TQ,SK,SZ,or_false]at ay;subst ay;cases hx
 ·rw[hK];refine .inl ?_;simp only[GS.c9,jo];omega
def Atom (a:Vf)(es:Array Uu):Prop:=es=#[jh a]\/es=#[lg a]\/es=#[jh a,lg a]\/es=B0 a
theorem Atom.mem{a:Vf}{es:Array Uu}(h:Atom a es){e:Uu}(he:e∈es):e=jh a\/e=lg a\/e=j_ .disable\/e=j_ .enable:=by
 rcases h with rfl|rfl|rfl|rfl<;>simp only[B0,TQ,SK,SZ,or_false]at he
 ·exact .inl he
 ·exact .inr (.inl he)
 ·exact he.imp id .inl
 ·rcases he with x|x|x|x
  ·exact .inr (.inr (.inl x))
  ·exact .inl x
  ·exact .inr (.inl x)
  ·exact .inr (.inr (.inr x))
theorem Atom.behind{a:Vf}{es:Array Uu}(h:Atom a es):deafBehind 1 es=1:=by
 rcases h with rfl|rfl|rfl|rfl<;>rfl
theorem Atom.touch{a:Vf}{es:Array Uu}(h:Atom a es){e:Uu}(he:e∈es){x:YR}(hx:(Tt e).touch?=some x):x.loc=.cell a/\x.kind=.atomic:=by
 rcases h.mem he with rfl|rfl|rfl|rfl
 ·cases hx;exact⟨rfl,rfl⟩
 ·cases hx;exact⟨rfl,rfl⟩
 ·cases hx
 ·cases hx
theorem Atom.low{a:Vf}{es:Array Uu}(h:Atom a es){n:Nat}(ha:a.block<n){e:Uu}(he:e∈es):(Tt e).low n:=by
 rcases h.mem he with rfl|rfl|rfl|rfl
 ·exact ha
 ·exact ha
 ·trivial
 ·trivial
theorem Atom.norel{a:Vf}{es:Array Uu}(h:Atom a es){e:Uu}(he:e∈es)(b:Vf):Tt e≠ .mark (.release b):=by
 rcases h.mem he with rfl|rfl|rfl|rfl<;>simp[jh,lg,j_,Tt]
theorem Atom.atX{a:Vf}{es:Array Uu}(h:Atom a es){i:Nat}{fn:TY}{pos:String}(hd:U4 t i=1){idx:Nat}{op:Wi}{x:YR}(cY:t.size<=idx)(ay:(t++Tc i fn pos es)[idx]?=some op)(hx:op.act.touch?=some x):
  ¬(t++Tc i fn pos es).heard idx:=by
 obtain⟨k,rfl⟩:∃k,idx=t.size+k:=⟨idx-t.size,by omega⟩;have tX:(Tc i fn pos es)[k]?=some op:=by rw[Yh (by omega)]at ay;simpa using ay
 have aO:op.g=i:=by obtain⟨e,_,rfl⟩:=TU (X7 tX);rfl
 rintro⟨g,hg,hz⟩
 have:g=i:=by simp[WE,ay,aO]at hg;exact hg.symm
 subst this;have B6:∀y:Wi,y.act=Tt (jh a)\/y.act=Tt (lg a)->still y.act:=λy hy=>by rcases hy with e|e<;>rw[e]<;>exact⟨by simp[jh,lg,Tt],by simp[jh,lg,Tt]⟩
 rcases h with rfl|rfl|rfl|rfl
 ·have:=uQ (t:=t) (u:=Tc g fn pos #[jh a]) (g:=g) (λop ay=>by obtain⟨e,he,rfl⟩:=TU ay;simp only[TQ,SK,SZ,or_false]at he;subst he;exact B6 _ (.inl rfl)) (k:=k) (by have:=TP tX;omega);omega
 ·have:=uQ (t:=t) (u:=Tc g fn pos #[lg a]) (g:=g) (λop ay=>by obtain⟨e,he,rfl⟩:=TU ay;simp only[TQ,SK,SZ,or_false]at he;subst he;exact B6 _ (.inr rfl)) (k:=k) (by have:=TP tX;omega);omega
 ·have:=uQ (t:=t) (u:=Tc g fn pos #[jh a,lg a]) (g:=g) (λop ay=>by obtain⟨e,he,rfl⟩:=TU ay;simp only[TQ,SK,SZ,or_false]at he;rcases he with rfl|rfl;exact B6 _ (.inl rfl);exact B6 _ (.inr rfl)) (k:=k) (by have:=TP tX;omega);omega
 ·
  have eu:Tc g fn pos (B0 a)=#[{g,fn,pos,act:=.mark .disable},{g,fn,pos,act:=.ofEvent (jh a)},{g,fn,pos,act:=.ofEvent (lg a)},{g,fn,pos,act:=.mark .enable}]:=by simp[Tc,B0,j_,Tt]
  rw[eu]at tX hz;have d0:(t++#[({g,fn,pos,act:=.mark .disable}:Wi),{g,fn,pos,act:=.ofEvent (jh a)},{g,fn,pos,act:=.ofEvent (lg a)},{g,fn,pos,act:=.mark .enable}]).deaf g t.size=1:=by rw[Rf];exact hd
  have d1:=ah_ (g:=g) (rO (t:=t) (show (#[({g,fn,pos,act:=.mark .disable}:Wi),{g,fn,pos,act:=.ofEvent (jh a)},{g,fn,pos,act:=.ofEvent (lg a)},{g,fn,pos,act:=.mark .enable}]:Uq)[0]?=some _ from rfl));have d2:=ah_ (g:=g) (rO (t:=t) (show (#[({g,fn,pos,act:=.mark .disable}:Wi),{g,fn,pos,act:=.ofEvent (jh a)},{g,fn,pos,act:=.ofEvent (lg a)},{g,fn,pos,act:=.mark .enable}]:Uq)[1]?=some _ from rfl));have d3:=ah_ (g:=g) (rO (t:=t) (show (#[({g,fn,pos,act:=.mark .disable}:Wi),{g,fn,pos,act:=.ofEvent (jh a)},{g,fn,pos,act:=.ofEvent (lg a)},{g,fn,pos,act:=.mark .enable}]:Uq)[2]?=some _ from rfl));rw[Kl (B6 _ (.inl rfl))]at d2;rw[Kl (B6 _ (.inr rfl))]at d3;simp only[UJ]at d1;rw[d0]at d1;have d1:=d1.trans (show deafStep g 1 {g,fn,pos,act:=.mark .disable}=2 by simp[deafStep]);have hk:k<4:=by have:=TP tX;simpa using this
  match k,hk with
  |0,_=>simp at tX;subst tX;cases hx
  |1,_=>rw[d1]at hz;omega
  |2,_=>rw[show t.size+2=t.size+1+1 from rfl,d2,d1]at hz;omega
  |3,_=>simp at tX;subst tX;cases hx
theorem Rest.atom{Wg:Nat}{s:eA}(hr:Rest Wg t K ic (some s)){a:Vf}{es:Array Uu}(h:Atom a es){i:Nat}{fn:TY}{pos:String}(hd:U4 t i=1){K':Nat->GS}(cY:∀m,(K' m).idx=(K m).idx):Rest Wg (t++Tc i fn pos es) K' ic (some s):=by
 refine hr.app (λidx a ha hx=> .inr (hx.app (by obtain⟨op,ay,_⟩:=U6 ha;exact TP ay) λm _ _ hm=> .inl (by rw[cY];exact hm))) (λidx x hi ⟨op,ay,yU,hx⟩ _=> .inr (.inl ⟨?_,h.atX hd hi yU hx⟩));obtain⟨e,he,rfl⟩:=TU ay;exact(h.touch he hx).2
theorem WgAt.IZ{Wg:Nat}{a b:Int}(h:WgAt P Wg w a b)(v:Int):WgAt P Wg (w.setCell (ec Wg) (.int .u64 v)) v b:=by
 unfold WgAt at h⊢;unfold Xr;rw[Wn];simp[ec,h,wgBlock]
theorem WgAt.adR{Wg:Nat}{a b:Int}(h:WgAt P Wg w a b)(v:Int):WgAt P Wg (w.setCell (pf Wg) (.int .u32 v)) a v:=by
 unfold WgAt at h⊢;unfold Xr;rw[Wn];simp[pf,h,wgBlock]
theorem WgAt.inj{Wg:Nat}{a b a' b':Int}(h:WgAt P Wg w a b)(k:WgAt P Wg w a' b'):a=a'/\b=b':=by
 unfold WgAt at h k;rw[h]at k;simp[wgBlock]at k;exact k
theorem Inv.F_(h:Inv P n0 W0 V gs w t K Im ic (some p) st)(aI:p.recv=true){i:Nat}{gi bF:SG}{es:Array Uu}{k':GS}{s:eA}{a:Vf}(hs:st=some s)(hi:0<i)(aO:gs[i]?=some gi)(aP:stepG P false gi w=.go bF w' es)(hd:U4 t i=1)
  (ha:Atom a es) (AZ:a=ec p.Wg\/a=pf p.Wg) (n9:w'=w\/∃x,w'=w.setCell a x) (hk:k'.is P p.c p.Wg Im p.Ss 1 bF) (qL:mN (k'.view Im) ((K i).view Im)) (yL:k'.nG=true->i=ic) (cY:k'.idx=none) (vk:(K i).idx=none)
  (kj:i=ic\/(K i).cnt=1\/(K i).late=1) (gM:∃n,w.heap[p.c]?=some (.chan 0 #[] false n n false))
  (yZ:Mode P p.c p.Wg gs.size w' ((gs.map (woken P gi bF w')).setIfInBounds i bF) (t++Tc i gi.frame.fn gi.frame.place es) (upd K i k') ic s) (vz:rC k'.c9 (K i).c9):gE P n0 W0 V gs w sl t K Im ic (some p) st i:=by
 have hlt:i<gs.size:=(SS.1 aO).1;have wR:a.block=p.Wg:=by rcases AZ with rfl|rfl<;>rfl
 have rV:p.c≠p.Wg:=h.phase.2.2.1;have gL:∀b,b≠p.Wg->w'.heap[b]?=w.heap[b]?:=λb hb=>by
  rcases n9 with rfl|⟨x,rfl⟩
  ·rfl
  ·exact wY _ _ _ (by rw[wR];exact Ne.symm hb)
 have aY:w'.heap.size=w.heap.size:=by rcases n9 with rfl|⟨x,rfl⟩;rfl;exact Fl _ _ _
 refine h.us aI hi aO aP (by rw[hd,ha.behind];exact hk) qL yL cY (λj hj=>by rw[vk]at hj;cases hj) (kj.imp id .inr) (λe he x hx=> .inl ?_) (λe he=>ha.low (by rw[wR];exact h.low.2) he) (λe he b=>ha.norel he b) aY (λb _ hb=>gL b hb)
  (by rcases n9 with rfl|⟨x,rfl⟩<;>rfl) (by rcases n9 with rfl|⟨x,rfl⟩<;>rfl) (by rcases n9 with rfl|⟨x,rfl⟩<;>rfl) yZ (.inl (by rw[gL _ rV];exact gM)) ?_ (zx hlt vz)
 ·have:=ha.touch he hx;exact⟨by rw[this.1];exact wR,this.2⟩
 ·have hr:Rest p.Wg t K ic st:=h.out.2.2.1;rw[hs]at hr;exact hr.atom ha hd λm=>by
   by_cases hm:m=i
   ·subst hm;rw[bB,cY,vk]
   ·rw[bf _ _ hm]
theorem Inv.af7(h:Inv P n0 W0 V gs w t K Im ic (some p) st)(aI:p.recv=true){i n:Nat}{gi:SG}(hi:0<i)(aO:gs[i]?=some gi)(hK:K i=.add n)(jK:Cm P p.Wg (U4 t i) gi):gE P n0 W0 V gs w sl t K Im ic (some p) st i:=by
 have hlt:i<gs.size:=(SS.1 aO).1;obtain⟨s,hs,gq,iY,hm⟩:=h.mode aI;have gX:(K i).cnt=1:=by rw[hK];rfl
 have eJ:(K i).late=0:=by rw[hK];rfl
 have vk:(K i).idx=none:=by rw[hK];rfl
 have gM:=(h.counted hi hlt gX).1;have aH:ic≠i:=λe=>by have:=(Mode.waits hm).1;rw[e,gX]at this;cases this
 obtain⟨hd,bQ,HH⟩:=jK;have hle:(K i).cnt<=sumTo gs.size λi=>(K i).cnt:=WG (f:=λi=>(K i).cnt) hlt;have rV:p.c≠p.Wg:=h.phase.2.2.1;have hq:∀(k':GS),sumTo gs.size (λa=>(upd K i k' a).cnt)+(K i).cnt=sumTo gs.size (λa=>(K a).cnt)+k'.cnt:=λk'=>B7 K k' GS.cnt hlt;have t_:∀(k':GS),sumTo gs.size (λa=>(upd K i k' a).late)+(K i).late=sumTo gs.size (λa=>(K a).late)+k'.late:=λk'=>B7 K k' GS.late hlt;have qL:∀k':GS,k'.view Im=noView->mN (k'.view Im) ((K i).view Im):=λk' e=>by rw[e];exact Ib _
 have leave:∀(wt v:Nat),wt<=1->v+1=(sumTo gs.size λi=>(K i).cnt)->v<4->¬(v=0/\wt=1)->s=.early->(sumTo gs.size λi=>(K i).late)=0->WgAt P p.Wg w (((v+1:Nat):Int)* KK+wt) 0->
   ((wt=0/\((∃k,(K ic).shape=.head k 0/\v<k)\/(∃u,(K ic).shape=.ml u 0/\v<=u/\0<u)))\/(wt=1/\((K ic).shape=.said 0\/(K ic).shape=.iq 0)))->gE P n0 W0 V gs w sl t K Im ic (some p) st i:=by
  intro wt v so hv HO fA hse avo hW a_;obtain⟨g',aP,_,hO⟩:=HH v wt so HO;obtain⟨q,hO⟩:=hO fA;have Ec:=hq (.gone q);have Eb:=t_ (.gone q);simp only[gX,eJ]at Ec Eb;rw[show (GS.gone q).cnt=0 from rfl]at Ec;rw[show (GS.gone q).late=0 from rfl]at Eb;refine h.F_ aI (k':=.gone q) (a:=ec p.Wg) hs hi aO (aP w hW) hd (.inr (.inr (.inl rfl))) (.inl rfl) (.inr ⟨_,rfl⟩) hO (qL _ rfl) (λx=>by cases x) rfl vk (.inr (.inl gX)) gM ?_ (by rw[hK];exact .inl (by simp[GS.c9]));have wM:=hW.IZ ((v:Int)* KK+wt);unfold Mode;simp only[bf _ _ aH];have KF:sumTo gs.size (λa=>(upd K i (.gone q) a).cnt)=v:=by omega
  have KI:sumTo gs.size (λa=>(upd K i (.gone q) a).late)=0:=by omega
  simp only[KF,KI];have ho:∃n,(w.setCell (ec p.Wg) (.int .u64 ((v:Int)* KK+wt))).heap[p.c]?=some (.chan 0 #[] false n n false):=by
   obtain⟨n,hn⟩:=gM;exact⟨n,by rw[wY _ _ _ (Ne.symm rV)];exact hn⟩
  rcases a_ with⟨rfl,a_⟩|⟨rfl,a_⟩
  ·exact .inl ⟨ho,hse,trivial,by omega,by simpa using wM,a_⟩
  ·exact .inr (.inl ⟨ho,hse,trivial,by omega,by omega,by simpa using wM,a_⟩)
 unfold Mode at hm;rcases hm with m|m|m|m|m|m|m
 ·obtain⟨m1,m2,m3,m4,m5,m6⟩:=m;refine leave 0 ((sumTo gs.size λi=>(K i).cnt)-1) (by omega) (by omega) (by omega) (by omega) m2 m3 ?_ (.inl ⟨rfl,?_⟩)
  ·rw[show (sumTo gs.size λi=>(K i).cnt)-1+1=(sumTo gs.size λi=>(K i).cnt) by omega];simpa using m5
  ·rcases m6 with⟨k,e1,e2⟩|⟨u,e1,e2,e3⟩
   ·exact .inl ⟨k,e1,by omega⟩
   ·exact .inr ⟨u,e1,by omega,e3⟩
 ·obtain⟨m1,m2,m3,m4,m5,m6,m7⟩:=m;by_cases hv:(sumTo gs.size λi=>(K i).cnt)=1
  ·
   obtain⟨g',aP,eY,_⟩:=HH 0 1 (by omega) (by omega);obtain⟨n',eY⟩:=eY ⟨rfl,rfl⟩;have Ec:=hq (.load n');have Eb:=t_ (.load n');simp only[gX,eJ]at Ec Eb;rw[show (GS.load n').cnt=0 from rfl]at Ec;rw[show (GS.load n').late=1 from rfl]at Eb;rw[hv]at m6;have hW:WgAt P p.Wg w (((0+1:Nat):Int)* KK+(1:Nat)) 0:=(by simpa using m6);refine h.F_ aI (k':=.load n') (a:=ec p.Wg) hs hi aO (aP w hW) hd (.inr (.inr (.inl rfl))) (.inl rfl) (.inr ⟨_,rfl⟩) eY (qL _ rfl) (λx=>by cases x) rfl vk (.inr (.inl gX)) gM ?_ (by rw[hK];exact .inl (by simp[GS.c9]));have wM:=hW.IZ (((0:Nat):Int)* KK+(1:Nat));unfold Mode;simp only[bf _ _ aH];have KF:sumTo gs.size (λa=>(upd K i (.load n') a).cnt)=0:=(by omega);have KI:sumTo gs.size (λa=>(upd K i (.load n') a).late)=1:=(by omega);simp only[KF,KI];have ho:∃n,(w.setCell (ec p.Wg) (.int .u64 (((0:Nat):Int)* KK+(1:Nat)))).heap[p.c]?=some (.chan 0 #[] false n n false):=by
    obtain⟨n,hn⟩:=gM;exact⟨n,by rw[wY _ _ _ (Ne.symm rV)];exact hn⟩
   refine .inr (.inr (.inl ⟨ho,m2,trivial,trivial,m7,λ_ _ _=>by simpa using wM,λm hm qS=> ?_⟩));exfalso;have cV:m≠i:=λe=>(by subst e;rw[bB]at qS;cases qS);rw[bf _ _ cV]at qS;have hlm:(K m).late<=sumTo gs.size λi=>(K i).late:=WG (f:=λi=>(K i).late) hm;rw[m3,<- GS.mD,qS]at hlm;simp[GS.late]at hlm
  ·refine leave 1 ((sumTo gs.size λi=>(K i).cnt)-1) (by omega) (by omega) (by omega) (by omega) m2 m3 ?_ (.inr ⟨rfl,m7⟩);rw[show (sumTo gs.size λi=>(K i).cnt)-1+1=(sumTo gs.size λi=>(K i).cnt) by omega];simpa using m6
 ·have:=m.2.2.2.1;omega
 ·have:=m.2.2.2.1;omega
 ·have:=m.2.2.2.1;omega
 ·have:=m.2.2.2.1;omega
 ·have:=m.2.2.1;omega
theorem Mode.EE{c Wg N:Nat}{s:eA}(hm:Mode P c Wg N w gs t K ic s){i:Nat}(hlt:i<N)(eJ:(K i).late=1):
  (∃n,w.heap[c]?=some (.chan 0 #[] false n n false))/\s=.early/\(sumTo N λi=>(K i).late)=1/\(sumTo N λi=>(K i).cnt)=0/\((K ic).shape=.said 0\/(K ic).shape=.iq 0)/\
  (((K i).shape=.load 0\/(K i).shape=.store 0)->WgAt P Wg w 1 0)/\((K i).shape=.mI 0->WgAt P Wg w 0 0):=by
 have hle:(K i).late<=sumTo N λi=>(K i).late:=WG (f:=λi=>(K i).late) hlt;unfold Mode at hm;rcases hm with m|m|m|m|m|m|m
 ·have:=m.2.2.1;omega
 ·have:=m.2.2.1;omega
 ·exact⟨m.1,m.2.1,m.2.2.1,m.2.2.2.1,m.2.2.2.2.1,m.2.2.2.2.2.1 i hlt,m.2.2.2.2.2.2 i hlt⟩
 ·have:=m.2.2.1;omega
 ·have:=m.2.2.1;omega
 ·have:=m.2.2.1;omega
 ·have:=m.2.1;omega
theorem acU{N:Nat}(h:(sumTo N λi=>(K i).late)=1){i m:Nat}(hi:i<N)(hm:m<N)(aH:m≠i)(eJ:(K i).late=1):(K m).late=0:=by
 have:=B7 K (.gone 0) GS.late hi;have h2:((upd K i (.gone 0)) m).late<=sumTo N λa=>(upd K i (.gone 0) a).late:=WG (f:=λa=>(upd K i (.gone 0) a).late) hm;rw[bf _ _ aH]at h2;simp only[eJ,h,show (GS.gone 0).late=0 from rfl]at this;omega
theorem Inv.N5(h:Inv P n0 W0 V gs w t K Im ic (some p) st)(aI:p.recv=true){i:Nat}{gi bF:SG}{es:Array Uu}{k':GS}{a:Vf}(hi:0<i)(aO:gs[i]?=some gi)(aP:stepG P false gi w=.go bF w' es)(hd:U4 t i=1)
  (ha:Atom a es) (AZ:a=ec p.Wg\/a=pf p.Wg) (n9:w'=w\/∃x,w'=w.setCell a x) (hk:k'.is P p.c p.Wg Im p.Ss 1 bF) (hv:k'.view Im=noView) (cY:k'.idx=none) (vk:(K i).idx=none) (pE:(K i).cnt=0) (aly:k'.cnt=0) (yL:k'.nG=false) (eJ:(K i).late=1)
  (tP:(k'.late=1/\((k'.shape=.load 0\/k'.shape=.store 0)->WgAt P p.Wg w' 1 0)/\(k'.shape=.mI 0->WgAt P p.Wg w' 0 0))\/
   (k'.late=0/\WgAt P p.Wg w' 0 1/\∀g,((gs.map (woken P gi bF w')).setIfInBounds i bF)[ic]?=some g->g.status=.running)) (vz:rC k'.c9 (K i).c9):gE P n0 W0 V gs w sl t K Im ic (some p) st i:=by
 have hlt:i<gs.size:=(SS.1 aO).1;obtain⟨s,hs,gq,iY,hm⟩:=h.mode aI;obtain⟨m1,m2,m3,m4,m5,m6,m7⟩:=hm.EE hlt eJ;have aH:ic≠i:=λe=>by have:=(Mode.waits hm).2;rw[e,eJ]at this;cases this
 have rV:p.c≠p.Wg:=h.phase.2.2.1;have wR:a.block=p.Wg:=by rcases AZ with rfl|rfl<;>rfl
 have gL:∀b,b≠p.Wg->w'.heap[b]?=w.heap[b]?:=λb hb=>by
  rcases n9 with rfl|⟨x,rfl⟩
  ·rfl
  ·exact wY _ _ _ (by rw[wR];exact Ne.symm hb)
 refine h.F_ aI hs hi aO aP hd ha AZ n9 hk (by rw[hv];exact Ib _) (λx=>by rw[yL]at x;cases x) cY vk (.inr (.inr eJ)) m1 ?_ vz;have e1:sumTo gs.size (λa=>(upd K i k' a).cnt)=0:=by have:=B7 K k' GS.cnt hlt;simp only[pE,aly,m4]at this;omega
 unfold Mode;simp only[bf _ _ aH,e1,gL _ rV];rcases tP with⟨x1,x2,x3⟩|⟨x1,x2,x3⟩
 ·have e2:sumTo gs.size (λa=>(upd K i k' a).late)=1:=by have:=B7 K k' GS.late hlt;simp only[eJ,x1,m3]at this;omega
  refine .inr (.inr (.inl ⟨m1,m2,e2,trivial,m5,λm hm dJ=> ?_,λm hm dJ=> ?_⟩))
  ·by_cases cV:m=i
   ·subst cV;rw[bB]at dJ;exact x2 dJ
   ·rw[bf _ _ cV]at dJ;have:=acU m3 hlt hm cV eJ;rw[<- GS.mD]at this;rcases dJ with e|e<;>rw[e]at this<;>cases this
  ·by_cases cV:m=i
   ·subst cV;rw[bB]at dJ;exact x3 dJ
   ·rw[bf _ _ cV]at dJ;have:=acU m3 hlt hm cV eJ;rw[<- GS.mD,dJ]at this;cases this
 ·have e2:sumTo gs.size (λa=>(upd K i k' a).late)=0:=by have:=B7 K k' GS.late hlt;simp only[eJ,x1,m3]at this;omega
  exact .inr (.inr (.inr (.inl ⟨m1,m2,e2,trivial,x2,x3,m5⟩)))
theorem Inv.aow(h:Inv P n0 W0 V gs w t K Im ic (some p) st)(aI:p.recv=true){i n:Nat}{gi:SG}(hi:0<i)(aO:gs[i]?=some gi)(hK:K i=.load n)(jK:FI P p.Wg (U4 t i) gi):gE P n0 W0 V gs w sl t K Im ic (some p) st i:=by
 have hlt:i<gs.size:=(SS.1 aO).1;obtain⟨s,hs,gq,iY,hm⟩:=h.mode aI;have eJ:(K i).late=1:=by rw[hK];rfl
 obtain⟨m1,m2,m3,m4,m5,m6,m7⟩:=hm.EE hlt eJ;obtain⟨hd,bQ,g',aP,n',cj⟩:=jK;have hW:=m6 (by rw[hK];exact .inl rfl);exact h.N5 aI (k':=.store n') (a:=ec p.Wg) hi aO (aP w hW) hd (.inl rfl) (.inl rfl) (.inl rfl) cj rfl rfl (by rw[hK];rfl) (by rw[hK];rfl) rfl rfl eJ (.inl ⟨rfl,λ_=>hW,λx=>by cases x⟩) (by rw[hK];exact .inl (by simp[GS.c9]))
theorem Inv.asX(h:Inv P n0 W0 V gs w t K Im ic (some p) st)(aI:p.recv=true){i n:Nat}{gi:SG}(hi:0<i)(aO:gs[i]?=some gi)(hK:K i=.store n)(jK:FK P p.Wg (U4 t i) gi):gE P n0 W0 V gs w sl t K Im ic (some p) st i:=by
 have hlt:i<gs.size:=(SS.1 aO).1;obtain⟨s,hs,gq,iY,hm⟩:=h.mode aI;have eJ:(K i).late=1:=by rw[hK];rfl
 obtain⟨m1,m2,m3,m4,m5,m6,m7⟩:=hm.EE hlt eJ;obtain⟨hd,bQ,g',aP,n',cj⟩:=jK;have hW:=m6 (by rw[hK];exact .inr rfl);exact h.N5 aI (k':=.mI n') (a:=ec p.Wg) hi aO (aP w hW) hd (.inr (.inl rfl)) (.inl rfl) (.inr ⟨_,rfl⟩) cj rfl rfl (by rw[hK];rfl) (by rw[hK];rfl) rfl rfl eJ (.inl ⟨rfl,λx=>(x.elim (λy=>by cases y) (λy=>by cases y)),λ_=>hW.IZ 0⟩) (by rw[hK];exact .inl (by simp[GS.c9]))
theorem Inv.ar1(h:Inv P n0 W0 V gs w t K Im ic (some p) st)(aI:p.recv=true){i n:Nat}{gi:SG}(hi:0<i)(aO:gs[i]?=some gi)(hK:K i=.mI n)(jK:FJ P p.Wg (U4 t i) gi):gE P n0 W0 V gs w sl t K Im ic (some p) st i:=by
 have hlt:i<gs.size:=(SS.1 aO).1;obtain⟨s,hs,gq,iY,hm⟩:=h.mode aI;have eJ:(K i).late=1:=by rw[hK];rfl
 obtain⟨m1,m2,m3,m4,m5,m6,m7⟩:=hm.EE hlt eJ;obtain⟨hd,bQ,MH,g',aP,q,hO⟩:=jK;have hW:=m7 (by rw[hK];rfl);have aH:ic≠i:=λe=>by have:=(Mode.waits hm).2;rw[e,eJ]at this;cases this
 refine h.N5 aI (k':=.gone q) (a:=pf p.Wg) hi aO (aP w hW) hd (.inr (.inr (.inr rfl))) (.inr rfl) (.inr ⟨_,rfl⟩) hO rfl rfl (by rw[hK];rfl) (by rw[hK];rfl) rfl rfl eJ (.inr ⟨rfl,hW.adR 1,λg hg=> ?_⟩) (by rw[hK];exact .inl (by simp[GS.c9]));rcases getElem?_next hlt hg with⟨e,_⟩|⟨_,y,hy,rfl⟩
 ·exact absurd e aH
 ·have yW:=h.is ic y gq hy;simp only at yW;have dJ:(∃n,K ic=.said n)\/∃n,K ic=.iq n:=by
   cases yC:K ic<;>rw[yC]at m5<;>simp[GS.shape]at m5
   ·exact .inl ⟨_,rfl⟩
   ·exact .inr ⟨_,rfl⟩
  rcases dJ with⟨n1,e⟩|⟨n1,e⟩
  ·rw[e]at yW;have hr:y.status=.running:=im.running (λd g x=>x.2.1) yW;rw[Yt hr];exact hr
  ·rw[e]at yW;rcases yW with yW|⟨_,g1,rfl,Mf⟩
   ·have hr:y.status=.running:=cT.running (λd g x=>x.2.1) yW;rw[Yt hr];exact hr
   ·have Ml:g'.status=.running\/g'.status=.finished:=ZS hO;unfold woken;have alx:(mayWake P gi&&g'.status != .blocked&&g'.status != .waiting)=true:=(by rcases Ml with hs|hs<;>simp[MH,hs]);rw[if_pos alx];unfold Y4;have:=Mf.2.2.1;simp[this]
theorem Mode.agH{c Wg N k:Nat}{s:eA}(hm:Mode P c Wg N w gs t K ic s)(e:(K ic).shape=.head k 0):
  (∃n,w.heap[c]?=some (.chan 0 #[] false n n false))/\s=.early/\(sumTo N λi=>(K i).late)=0/\(sumTo N λi=>(K i).cnt)<=4/\WgAt P Wg w (((sumTo N λi=>(K i).cnt:Nat):Int)* KK) 0/\(sumTo N λi=>(K i).cnt)<k:=by
 unfold Mode at hm;simp only[e]at hm;rcases hm with m|m|m|m|m|m|m
 ·obtain⟨a,b,c,d,f,x⟩:=m;refine⟨a,b,c,d,f,?_⟩;rcases x with⟨k',x,y⟩|⟨v,x,_⟩
  ·cases x;exact y
  ·cases x
 ·rcases m.2.2.2.2.2.2 with x|x<;>cases x
 ·rcases m.2.2.2.2.1 with x|x<;>cases x
 ·rcases m.2.2.2.2.2.2 with x|x<;>cases x
 ·rcases m.2.2.2.2.2 with x|x<;>cases x
 ·rcases m.2.2.2.2 with x|x<;>cases x
 ·cases m.2.2.2
theorem Mode.agG{c Wg N v:Nat}{s:eA}(hm:Mode P c Wg N w gs t K ic s)(e:(K ic).shape=.ml v 0):
  (∃n,w.heap[c]?=some (.chan 0 #[] false n n false))/\s=.early/\(sumTo N λi=>(K i).late)=0/\(sumTo N λi=>(K i).cnt)<=4/\WgAt P Wg w (((sumTo N λi=>(K i).cnt:Nat):Int)* KK) 0/\(sumTo N λi=>(K i).cnt)<=v/\0<v:=by
 unfold Mode at hm;simp only[e]at hm;rcases hm with m|m|m|m|m|m|m
 ·obtain⟨a,b,c,d,f,x⟩:=m;refine⟨a,b,c,d,f,?_⟩;rcases x with⟨k',x,y⟩|⟨v,x,y⟩
  ·cases x
  ·cases x;exact y
 ·rcases m.2.2.2.2.2.2 with x|x<;>cases x
 ·rcases m.2.2.2.2.1 with x|x<;>cases x
 ·rcases m.2.2.2.2.2.2 with x|x<;>cases x
 ·rcases m.2.2.2.2.2 with x|x<;>cases x
 ·rcases m.2.2.2.2 with x|x<;>cases x
 ·cases m.2.2.2
theorem Mode.Qq{c Wg N:Nat}{s:eA}(hm:Mode P c Wg N w gs t K ic s)(e:(K ic).shape=.last 0\/(K ic).shape=.acq 0):
  (∃n,w.heap[c]?=some (.chan 0 #[] false n n false))/\s=.early/\(sumTo N λi=>(K i).late)=0/\(sumTo N λi=>(K i).cnt)=0/\WgAt P Wg w 0 0:=by
 unfold Mode at hm;rcases hm with m|m|m|m|m|m|m
 ·rcases m.2.2.2.2.2 with⟨_,x,_⟩|⟨_,x,_⟩<;>rcases e with e|e<;>rw[e]at x<;>cases x
 ·rcases m.2.2.2.2.2.2 with x|x<;>rcases e with e|e<;>rw[e]at x<;>cases x
 ·rcases m.2.2.2.2.1 with x|x<;>rcases e with e|e<;>rw[e]at x<;>cases x
 ·rcases m.2.2.2.2.2.2 with x|x<;>rcases e with e|e<;>rw[e]at x<;>cases x
 ·exact⟨m.1,m.2.1,m.2.2.1,m.2.2.2.1,m.2.2.2.2.1⟩
 ·rcases m.2.2.2.2 with x|x<;>rcases e with e|e<;>rw[e]at x<;>cases x
 ·have x:=m.2.2.2;rcases e with e|e<;>rw[e]at x<;>cases x
theorem Mode.Qr{c Wg N:Nat}{s:eA}(hm:Mode P c Wg N w gs t K ic s)(e:(K ic).shape=.look 0\/(K ic).shape=.close 0):
  (∃n,w.heap[c]?=some (.chan 0 #[] false n n false))/\s=.got/\(sumTo N λi=>(K i).late)=0/\(sumTo N λi=>(K i).cnt)=0:=by
 unfold Mode at hm;rcases hm with m|m|m|m|m|m|m
 ·rcases m.2.2.2.2.2 with⟨_,x,_⟩|⟨_,x,_⟩<;>rcases e with e|e<;>rw[e]at x<;>cases x
 ·rcases m.2.2.2.2.2.2 with x|x<;>rcases e with e|e<;>rw[e]at x<;>cases x
 ·rcases m.2.2.2.2.1 with x|x<;>rcases e with e|e<;>rw[e]at x<;>cases x
 ·rcases m.2.2.2.2.2.2 with x|x<;>rcases e with e|e<;>rw[e]at x<;>cases x
 ·rcases m.2.2.2.2.2 with x|x<;>rcases e with e|e<;>rw[e]at x<;>cases x
 ·exact⟨m.1,m.2.1,m.2.2.1,m.2.2.2.1⟩
 ·have x:=m.2.2.2;rcases e with e|e<;>rw[e]at x<;>cases x
theorem Mode.Qs{c Wg N:Nat}{s:eA}(hm:Mode P c Wg N w gs t K ic s)(e:(K ic).shape=.said 0\/(K ic).shape=.iq 0):
  (∃n,w.heap[c]?=some (.chan 0 #[] false n n false))/\s=.early/\((∃st,WgAt P Wg w st 0)\/((sumTo N λi=>(K i).late)=0/\(sumTo N λi=>(K i).cnt)=0/\WgAt P Wg w 0 1))/\
  ∀{w':Tq}{gs':Array SG}{u:Uq}{k':GS},(k'.shape=.said 0\/k'.shape=.iq 0)->w'.heap[c]?=w.heap[c]?->w'.heap[Wg]?=w.heap[Wg]?->(WgAt P Wg w 0 1->∀g,gs'[ic]?=some g->g.status=.running)->ic<N->Mode P c Wg N w' gs' (t++u) (upd K ic k') ic s:=by
 have wait:∀{k:GS},(k.shape=.said 0\/k.shape=.iq 0)->k.cnt=0/\k.late=0:=λ{k} h=>by rw[<- GS.nH,<- GS.mD];rcases h with h|h<;>rw[h]<;>exact⟨rfl,rfl⟩
 have tail:∀(w':Tq)(gs':Array SG)(u:Uq)(k':GS),(k'.shape=.said 0\/k'.shape=.iq 0)->w'.heap[c]?=w.heap[c]?->w'.heap[Wg]?=w.heap[Wg]?->(WgAt P Wg w 0 1->∀g,gs'[ic]?=some g->g.status=.running)->ic<N->Mode P c Wg N w' gs' (t++u) (upd K ic k') ic s:=by
  intro w' gs' u k' hk hc hW hr fW;have e1:sumTo N (λi=>(upd K ic k' i).cnt)=sumTo N λi=>(K i).cnt:=lH K k' GS.cnt (by rw[(wait hk).1,(wait e).1]);have e2:sumTo N (λi=>(upd K ic k' i).late)=sumTo N λi=>(K i).late:=lH K k' GS.late (by rw[(wait hk).2,(wait e).2]);have e3:∀st sm,WgAt P Wg w' st sm=WgAt P Wg w st sm:=λst sm=>by unfold WgAt;rw[hW]
  have e5:∀i (q:GS),(q=.load 0\/q=.store 0\/q=.mI 0)->(upd K ic k' i).shape=q->(K i).shape=q:=λi q hq hs=>by
   by_cases hi:i=ic
   ·subst hi;rw[bB]at hs;rcases hk with x|x<;>rw[x]at hs<;>subst hs<;>rcases hq with y|y|y<;>cases y
   ·rw[bf _ _ hi]at hs;exact hs
  unfold Mode at hm⊢;simp only[e1,e2,e3,hc,bB];rcases hm with m|m|m|m|m|m|m
  ·rcases m.2.2.2.2.2 with⟨_,x,_⟩|⟨_,x,_⟩<;>rcases e with e|e<;>rw[e]at x<;>cases x
  ·exact .inr (.inl ⟨m.1,m.2.1,m.2.2.1,m.2.2.2.1,m.2.2.2.2.1,m.2.2.2.2.2.1,hk⟩)
  ·exact .inr (.inr (.inl ⟨m.1,m.2.1,m.2.2.1,m.2.2.2.1,hk,λi hi x=>m.2.2.2.2.2.1 i hi (x.imp (e5 i _ (.inl rfl)) (e5 i _ (.inr (.inl rfl)))),λi hi x=>m.2.2.2.2.2.2 i hi (e5 i _ (.inr (.inr rfl)) x)⟩))
  ·exact .inr (.inr (.inr (.inl ⟨m.1,m.2.1,m.2.2.1,m.2.2.2.1,m.2.2.2.2.1,hr m.2.2.2.2.1,hk⟩)))
  ·rcases m.2.2.2.2.2 with x|x<;>rcases e with e|e<;>rw[e]at x<;>cases x
  ·rcases m.2.2.2.2 with x|x<;>rcases e with e|e<;>rw[e]at x<;>cases x
  ·have x:=m.2.2.2;rcases e with e|e<;>rw[e]at x<;>cases x
 have g_:=hm;unfold Mode at hm;rcases hm with m|m|m|m|m|m|m
 ·rcases m.2.2.2.2.2 with⟨_,x,_⟩|⟨_,x,_⟩<;>rcases e with e|e<;>rw[e]at x<;>cases x
 ·exact⟨m.1,m.2.1,.inl ⟨_,m.2.2.2.2.2.1⟩,λ{w'} {gs'} {u} {k'}=>tail w' gs' u k'⟩
 ·refine⟨m.1,m.2.1,.inl ?_,λ{w'} {gs'} {u} {k'}=>tail w' gs' u k'⟩;have:∃i,i<N/\(K i).late=1:=by
   apply Tv;intro fA;have hz:sumTo N (λi=>(K i).late)=sumTo N λ_=>0:=Vv λi hi=>by
    have aH:¬(K i).late=1:=λx=>fA ⟨i,hi,x⟩;cases lh:K i<;>rw[lh]at aH<;>first|rfl|exact absurd rfl aH
   have h0:sumTo N (λ_=>0)=0:=by
    have:∀N,sumTo N (λ_=>0)=0:=λN=>(by induction N with|zero=>rfl|succ N ih=>simp[sumTo,ih]);exact this N
   have:=m.2.2.1;omega
  obtain⟨i,hi,eJ⟩:=this;obtain⟨_,_,_,_,_,m6,m7⟩:=g_.EE hi eJ;cases lh:K i<;>rw[lh]at eJ m6 m7<;>simp[GS.late]at eJ
  ·exact⟨1,m6 (.inl rfl)⟩
  ·exact⟨1,m6 (.inr rfl)⟩
  ·exact⟨0,m7 rfl⟩
 ·exact⟨m.1,m.2.1,.inr ⟨m.2.2.1,m.2.2.2.1,m.2.2.2.2.1⟩,λ{w'} {gs'} {u} {k'}=>tail w' gs' u k'⟩
 ·rcases m.2.2.2.2.2 with x|x<;>rcases e with e|e<;>rw[e]at x<;>cases x
 ·rcases m.2.2.2.2 with x|x<;>rcases e with e|e<;>rw[e]at x<;>cases x
 ·have x:=m.2.2.2;rcases e with e|e<;>rw[e]at x<;>cases x
theorem Ia(Im:cC):mN {noView with ah:=Im} {noView with ah:=Im}:=⟨λ_=> .inr rfl,λ_ _=> .inr rfl,λ_ _ _=>rfl⟩
theorem aoh(Im:cC):mN noView {noView with ah:=Im}:=⟨λ_=> .inr rfl,λ_ _=> .inl rfl,λb hb=>absurd rfl hb⟩
theorem Inv.Aw(h:Inv P n0 W0 V gs w t K Im ic (some p) st)(aI:p.recv=true){gi bF:SG}{es:Array Uu}{k':GS}{a:Vf}{s:eA}(hs:st=some s)(aO:gs[ic]?=some gi)(aP:stepG P false gi w=.go bF w' es)(hd:U4 t ic=1)
  (ha:Atom a es) (AZ:a=ec p.Wg\/a=pf p.Wg) (n9:w'=w\/∃x,w'=w.setCell a x) (hk:k'.is P p.c p.Wg Im p.Ss 1 bF) (hv:k'.view Im={noView with ah:=Im}) (zg:(K ic).view Im={noView with ah:=Im}) (cY:k'.idx=none) (vk:(K ic).idx=none)
  (gM:∃n,w.heap[p.c]?=some (.chan 0 #[] false n n false))
  (yZ:Mode P p.c p.Wg gs.size w' ((gs.map (woken P gi bF w')).setIfInBounds ic bF) (t++Tc ic gi.frame.fn gi.frame.place es) (upd K ic k') ic s) (vz:rC k'.c9 (K ic).c9):gE P n0 W0 V gs w sl t K Im ic (some p) st ic:=by
 obtain⟨s',_,gq,_,_⟩:=h.mode aI;exact h.F_ aI hs gq aO aP hd ha AZ n9 hk (by rw[hv,zg];exact Ia Im) (λ_=>rfl) cY vk (.inl rfl) gM yZ vz
theorem Inv.alS(h:Inv P n0 W0 V gs w t K Im ic (some p) st)(aI:p.recv=true){k n:Nat}{gi:SG}(aO:gs[ic]?=some gi)(hK:K ic=.head k n)(jK:eM P Im p.c p.Wg k (U4 t ic) gi):gE P n0 W0 V gs w sl t K Im ic (some p) st ic:=by
 obtain⟨s,hs,gq,iY,hm⟩:=h.mode aI;obtain⟨m1,m2,m3,m4,m5,m6⟩:=hm.agH (k:=k) (by rw[hK];rfl);obtain⟨k,rfl⟩:∃k',k=k'+1:=⟨k-1,by omega⟩;obtain⟨hd,bQ,HH⟩:=eM.succ _ _ _ _ jK;obtain⟨g',aP,hz,MP⟩:=HH _ (by omega) m4;have lX:=aP w m5;have uP:∀k':GS,k'.cnt=0->k'.late=0->sumTo gs.size (λi=>(upd K ic k' i).cnt)=(sumTo gs.size λi=>(K i).cnt)/\sumTo gs.size (λi=>(upd K ic k' i).late)=(sumTo gs.size λi=>(K i).late):=λk' h1 h2=>
  ⟨lH K k' GS.cnt (by rw[h1,hK];rfl),lH K k' GS.late (by rw[h2,hK];rfl)⟩
 by_cases hv:(sumTo gs.size λi=>(K i).cnt)=0
 ·obtain⟨n',cj⟩:=hz hv;refine h.Aw aI (k':=.acq n') (a:=ec p.Wg) hs aO lX hd (.inl rfl) (.inl rfl) (.inl rfl) cj rfl (by rw[hK];rfl) rfl (by rw[hK];rfl) m1 ?_ (by rw[hK];exact .inl (by simp[GS.c9];omega));unfold Mode;simp only[(uP (.acq n') rfl rfl).1,(uP (.acq n') rfl rfl).2,bB];refine .inr (.inr (.inr (.inr (.inl ⟨m1,m2,m3,hv,?_,.inr rfl⟩))));rw[hv]at m5;simpa using m5
 ·obtain⟨n',cj⟩:=MP hv;refine h.Aw aI (k':=.ml (sumTo gs.size λi=>(K i).cnt) n') (a:=ec p.Wg) hs aO lX hd (.inl rfl) (.inl rfl) (.inl rfl) cj rfl (by rw[hK];rfl) rfl (by rw[hK];rfl) m1 ?_ (by rw[hK];exact .inl (by simp[GS.c9];omega));unfold Mode;simp only[(uP (.ml _ n') rfl rfl).1,(uP (.ml _ n') rfl rfl).2,bB];exact .inl ⟨m1,m2,m3,m4,m5,.inr ⟨_,rfl,SO _,by omega⟩⟩
theorem Inv.ahI(h:Inv P n0 W0 V gs w t K Im ic (some p) st)(aI:p.recv=true){v n:Nat}{gi:SG}(aO:gs[ic]?=some gi)(hK:K ic=.ml v n)(jK:FF P p.c p.Wg Im v (U4 t ic) gi):gE P n0 W0 V gs w sl t K Im ic (some p) st ic:=by
 obtain⟨s,hs,gq,iY,hm⟩:=h.mode aI;obtain⟨m1,m2,m3,m4,m5,m6,m7⟩:=hm.agG (v:=v) (by rw[hK];rfl);obtain⟨hd,bQ,⟨g1,HG,n1,am4⟩,amf⟩:=jK;have rV:p.c≠p.Wg:=h.phase.2.2.1;have uP:∀k':GS,k'.cnt=0->k'.late=0->sumTo gs.size (λi=>(upd K ic k' i).cnt)=(sumTo gs.size λi=>(K i).cnt)/\sumTo gs.size (λi=>(upd K ic k' i).late)=(sumTo gs.size λi=>(K i).late):=λk' h1 h2=>
  ⟨lH K k' GS.cnt (by rw[h1,hK];rfl),lH K k' GS.late (by rw[h2,hK];rfl)⟩
 by_cases hv:(sumTo gs.size λi=>(K i).cnt)=v
 ·refine h.Aw aI (k':=.said n1) (a:=ec p.Wg) hs aO (HG w (by rw[<- hv];exact m5)) hd (.inr (.inr (.inl rfl))) (.inl rfl) (.inr ⟨_,rfl⟩) am4 rfl (by rw[hK];rfl) rfl (by rw[hK];rfl) m1 ?_ (by rw[hK];exact .inl (by simp[GS.c9];omega));unfold Mode;simp only[(uP (.said n1) rfl rfl).1,(uP (.said n1) rfl rfl).2,bB];refine .inr (.inl ⟨?_,m2,m3,by omega,m4,?_,.inl rfl⟩)
  ·obtain⟨n,hn⟩:=m1;exact⟨n,by rw[wY _ _ _ (Ne.symm rV)];exact hn⟩
  ·rw[hv];exact m5.IZ _
 ·obtain⟨g',lX,n',cj⟩:=amf (sumTo gs.size λi=>(K i).cnt) (by omega);refine h.Aw aI (k':=.head v n') (a:=ec p.Wg) hs aO (lX w m5) hd (.inl rfl) (.inl rfl) (.inl rfl) cj rfl (by rw[hK];rfl) rfl (by rw[hK];rfl) m1 ?_ (by rw[hK];exact .inl (by simp[GS.c9]));unfold Mode;simp only[(uP (.head v n') rfl rfl).1,(uP (.head v n') rfl rfl).2,bB];exact .inl ⟨m1,m2,m3,m4,m5,.inl ⟨v,rfl,by omega⟩⟩
theorem Inv.anQ(h:Inv P n0 W0 V gs w t K Im ic (some p) st)(aI:p.recv=true){n:Nat}{gi:SG}(aO:gs[ic]?=some gi)(hK:K ic=.last n)(jK:Jw P Im p.c p.Wg (U4 t ic) gi):gE P n0 W0 V gs w sl t K Im ic (some p) st ic:=by
 obtain⟨s,hs,gq,iY,hm⟩:=h.mode aI;obtain⟨m1,m2,m3,m4,m5⟩:=hm.Qq (.inl (by rw[hK];rfl));obtain⟨hd,bQ,g',aP,n',cj⟩:=jK;refine h.Aw aI (k':=.acq n') (a:=ec p.Wg) hs aO (aP w m5) hd (.inl rfl) (.inl rfl) (.inl rfl) cj rfl (by rw[hK];rfl) rfl (by rw[hK];rfl) m1 ?_ (by rw[hK];exact .inl (by simp[GS.c9]));unfold Mode;have e1:sumTo gs.size (λi=>(upd K ic (.acq n') i).cnt)=0:=by rw[lH K (.acq n') GS.cnt (by rw[hK];rfl)];exact m4
 have e2:sumTo gs.size (λi=>(upd K ic (.acq n') i).late)=0:=by rw[lH K (.acq n') GS.late (by rw[hK];rfl)];exact m3
 simp only[e1,e2,bB];exact .inr (.inr (.inr (.inr (.inl ⟨m1,m2,trivial,trivial,m5,.inr rfl⟩))))
theorem Inv.ahZ(h:Inv P n0 W0 V gs w t K Im ic (some p) st)(aI:p.recv=true){n:Nat}{gi:SG}(aO:gs[ic]?=some gi)(hK:K ic=.iq n)(jK:FH P Im p.c p.Wg (U4 t ic) gi):gE P n0 W0 V gs w sl t K Im ic (some p) st ic:=by
 obtain⟨s,hs,gq,iY,hm⟩:=h.mode aI;obtain⟨m1,m2,m3,mk⟩:=hm.Qs (.inr (by rw[hK];rfl));obtain⟨hd,bQ,amq,wR,g',HK,n',cj⟩:=jK;have rV:p.c≠p.Wg:=h.phase.2.2.1;rcases m3 with⟨stv,hW⟩|⟨m4,m5,hW⟩
 ·
  have aP:=wR w stv hW;have amk:¬WgAt P p.Wg w 0 1:=λx=>by have:=(hW.inj x).2;cases this
  refine h.us aI (k':=.iq 0) (s':=s) gq aO aP (.inr ⟨rfl,gi,rfl,by rw[hd];exact⟨rfl,bQ,amq,wR,g',HK,n',cj⟩⟩) (by rw[hK];exact Ia Im) (λ_=>rfl) rfl (λj hj=>by rw[hK]at hj;cases hj) (.inl rfl) (by simp) (by simp) (by simp) rfl (λ_ _ _=>rfl) rfl rfl rfl
   (mk (.inr rfl) rfl rfl (λx=>absurd x amk) iY) (.inl m1) ?_ ?_
  ·have e0:t++Tc ic gi.frame.fn gi.frame.place #[]=t:=(by simp[Tc]);have hr:Rest p.Wg t K ic st:=h.out.2.2.1;rw[hs]at hr;refine hr.app (λidx a ha hx=> .inr (hx.app (by obtain⟨op,ay,_⟩:=U6 ha;exact TP ay) λm _ _ hj=> .inl ?_)) (λidx a _ ⟨op,ay,_⟩ _=>by simp[Tc]at ay);by_cases cV:m=ic
   ·subst cV;rw[hK]at hj;cases hj
   ·rw[bf _ _ cV];exact hj
  ·by_cases hn:n=0
   ·refine .inr ⟨funext λj=> ?_,?_⟩
    ·by_cases hj:j=ic
     ·subst hj;simp only[bB,hK,hn]
     ·simp only[bf _ _ hj]
    ·simp only[flag];rw[Tb (by simpa using iY),aO];simp[bQ]
   ·exact zx iY (by rw[hK];exact .inr ⟨rfl,.inr ⟨rfl,by simp only[GS.c9];omega⟩⟩)
 ·refine h.Aw aI (k':=.last n') (a:=pf p.Wg) hs aO (HK w hW) hd (.inr (.inr (.inr rfl))) (.inr rfl) (.inr ⟨_,rfl⟩) cj rfl (by rw[hK];rfl) rfl (by rw[hK];rfl) m1 ?_ (by rw[hK];exact .inl (by simp[GS.c9]));unfold Mode;have e1:sumTo gs.size (λi=>(upd K ic (.last n') i).cnt)=0:=by rw[lH K (.last n') GS.cnt (by rw[hK];rfl)];exact m5
  have e2:sumTo gs.size (λi=>(upd K ic (.last n') i).late)=0:=by rw[lH K (.last n') GS.late (by rw[hK];rfl)];exact m4
  simp only[e1,e2,bB];obtain⟨n,hn⟩:=m1;exact .inr (.inr (.inr (.inr (.inl ⟨⟨n,by rw[wY _ _ _ (Ne.symm rV)];exact hn⟩,m2,trivial,trivial,hW.adR 0,.inl rfl⟩))))
theorem Inv.arH(h:Inv P n0 W0 V gs w t K Im ic (some p) st)(aI:p.recv=true){n:Nat}{gi:SG}(aO:gs[ic]?=some gi)(hK:K ic=.said n)(jK:FG P Im p.c p.Wg (U4 t ic) gi):gE P n0 W0 V gs w sl t K Im ic (some p) st ic:=by
 obtain⟨s,hs,gq,iY,hm⟩:=h.mode aI;obtain⟨m1,m2,m3,mk⟩:=hm.Qs (.inl (by rw[hK];rfl));obtain⟨hd,bQ,g',aP,n',cj⟩:=jK;have nV:∀e∈#[j_ (.write (pf p.Wg))],e=j_ (.write (pf p.Wg)):=λe he=>by simpa using he
 have abo:g'.status=.running:=cT.running (λd g x=>x.2.1) cj;refine h.us aI (k':=.iq n') (s':=s) gq aO (aP w) (.inl (by rw[hd];exact cj)) (by rw[hK];exact Ia Im) (λ_=>rfl) rfl (λj hj=>by rw[hK]at hj;cases hj) (.inl rfl) (λe he x hx=> .inr (.inl ?_)) (λe he=> ?_) (λe he a=> ?_) rfl (λ_ _ _=>rfl) rfl rfl rfl
  (mk (.inr rfl) rfl rfl (λ_ g hg=> ?_) iY) (.inl m1) ?_ (zx iY (by rw[hK];exact .inl (by simp[GS.c9])))
 ·rw[nV e he]at hx;cases hx;exact⟨rfl,rfl,rfl⟩
 ·rw[nV e he];exact h.low.2
 ·rw[nV e he];simp[j_,Tt]
 ·rcases getElem?_next iY hg with⟨_,rfl⟩|⟨aH,_⟩
  ·exact abo
  ·exact absurd rfl aH
 ·have hr:Rest p.Wg t K ic st:=h.out.2.2.1;rw[hs,m2]at hr;rw[m2];refine hr.app (λidx a ha hx=> .inr (hx.app (by obtain⟨op,ay,_⟩:=U6 ha;exact TP ay) λm _ _ hj=> .inl ?_)) (λidx a _ ⟨op,ay,yU,_⟩ _=> .inr (.inr ⟨ic,?_,gq,.inr (.inl rfl)⟩))
  ·by_cases cV:m=ic
   ·subst cV;rw[hK]at hj;cases hj
   ·rw[bf _ _ cV];exact hj
  ·obtain⟨e,_,rfl⟩:=TU ay;simp[WE,yU]
end
end Go.Gg
