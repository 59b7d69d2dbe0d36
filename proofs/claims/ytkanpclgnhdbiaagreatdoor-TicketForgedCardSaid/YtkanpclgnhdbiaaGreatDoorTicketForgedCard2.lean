/- A part of the proof. -/
import Derived.Test.YtkanpclgnhdbiaaGreatDoorTicketForgedCard1
import Derived.Conc.Beside
import Derived.Conc.CrowdTrace
import Derived.Conc.CrowdComm
set_option linter.all false
set_option maxRecDepth 4000
set_option maxHeartbeats 4000000
open Array renaming getElem?_append_right->X2,getElem?_eq_getElem->SJ,getElem?_eq_some_iff->SS,getElem?_map->WF,getElem?_modify->Wi,getElem?_setIfInBounds_ne->SU,getElem?_setIfInBounds_self_of_lt->S_,getElem_mem->XR,mem_append->Uu,size_append->XA
open Bool renaming false_eq_true->TN
open Classical renaming byContradiction->Tm
open Go renaming Addr->U5,Code->T4,Deferred->UY,Event->Ur,FuncId->TO,Goroutine->SG,IntKind->TW,LoopState->Z6,MemOp->Wc,Operand->Th,Program->SI,ResultVar->UO,Touch->YI,Trace->Um,Value->SP,World->Tp
open Go.BinOp renaming neq->Wx
open Go.Conc renaming Deaf->UT,Deaf_other->at3,Knows->Wm,QuitsD->Y4,act?_of->ae_,act?_old->X0,deaf_succ->Z_,getElem?_append_cases->Xh,getElem?_stand->X6,heard_old->Wr,knows_own->Zb,lt_of_act?->Wb,lt_size_of_getElem?->TJ,mem_ofEvents->TM,mem_of_getElem?->XQ,ofEvent_cell0->am',offersAt_of_not_blocked->UV,offersAt_ph->Zl,served->T5,touch_mute->ZT,touch_of->UU,woken_run->Yh
open Go.Conc.QuitsD renaming status->ZD
open Go.ConcN renaming le_sumTo->WE,sumTo_congr->Vp
open Go.Event renaming mute->WH
open Go.GoStatus renaming blocked->at1
open Go.Goroutine renaming again->YR
open Go.IntKind renaming i64->SD
open Go.MemAct renaming low_mono->Zi,ofEvent->Ts,touch?->Wd
open Go.MemAct.mark renaming injEq->ag'
open Go.MemOp renaming ofEvents->Ta
open Go.Obj renaming deferred->aud
open Go.Op renaming equal->Xn
open Go.Proofs.Tryz renaming f107->ag2,f109->af',f89->ak',f97->asg,prog->SA
open Go.Trace renaming g?->WB
open Go.Value renaming int->SF
open Go.World renaming cell?->Uz,setCell->Xg
open Int renaming toNat->X5
open List renaming append_assoc->SC,append_nil->SO,cons_append->Vh,drop->T7,drop_append->Vy,drop_append_of_le_length->Wq,drop_drop->ak_,drop_eq_getElem_cons->TQ,drop_eq_nil_of_le->TV,drop_zero->Xy,ext_getElem?->Yk,flatMap_append->UX,flatMap_cons->Ub,foldl->aa',foldl_append->ZM,foldl_cons->UZ,getD_eq_getElem?_getD->SE,getElem?_append_left->SW,getElem?_append_right->S9,getElem?_drop->Uo,getElem?_eq_getElem->SY,getElem?_eq_some_iff->SL,getElem?_map->To,getElem?_set->UQ,getElem?_set_ne->T6,getElem?_set_self->W7,getElem?_take->Ue,getElem_mem->Wu,getLastD_eq_getLast?->Vl,length_append->SN,length_drop->Un,length_map->Tn,length_set->TF,map->U9,mapM_cons->T_,mapM_nil->UD,map_append->TD,map_congr_left->VC,map_cons->UW,map_drop->af_,map_flatMap->Vx,map_map->XV,map_singleton->Y8,map_take->VX,mem_append->SR,mem_append_left->Tf,mem_append_right->S4,mem_cons->SK,mem_flatMap->S5,mem_flatten->XI,mem_iff_getElem?->UR,mem_map->Tl,mem_of_getElem?->Tc,mem_of_mem_take->Wt,mem_or_eq_of_mem_set->UC,mem_replicate->Xw,mem_singleton->S8,mem_toArray->TK,nil_append->UJ,nodup_append->U7,not_mem_nil->S0,range->SZ,range'->TS,range'_append_1->Y6,range'_succ->VU,range_eq_range'->U8,range_succ->Vo,replicate->TH,replicate_succ->Ww,set_append_left->US,set_append_right->T9,set_cons_succ->UF,set_cons_zero->TZ,set_eq_take_append_cons_drop->XK,set_set->W6,take->Ui,take_add_one->VL,take_append_drop->Vj,take_append_of_le_length->Tw,take_length->TG,take_of_length_le->SX,take_set->Z1,take_succ->WA,take_succ_cons->VR,take_take->U3,take_zero->aj'
open List.Perm renaming refl->ab_
open Nat renaming add_sub_cancel->VZ,add_sub_cancel_left->TR,add_zero->UE,eq_zero_or_pos->UH,le_of_eq->WI,le_refl->SQ,le_trans->UM,lt_of_lt_of_le->Td,lt_trans->Wn,reduceAdd->SV,strongRecOn->Yj,sub_self->Vf,sub_zero->ZW,zero_add->Ws
open Option renaming bind_eq_bind->TP,getD_some->S7,map_eq_some_iff->Tq,pure_def->Uj,toList_some->Xd
open Option.some renaming inj->VY,injEq->Tj
open Prod.mk renaming injEq->U2
namespace Go.Gg
open Go.Conc Go.Proofs Go.Gg.Tk
theorem Jw{α:Type}(g:Nat->List α)(i:Nat):(SZ (i+1)).flatMap g=(SZ i).flatMap g++g i:=by
 rw[Vo,UX];simp
theorem Jv{α:Type}(g:Nat->List α){i n:Nat}(h:i<n):(SZ n).flatMap g=(SZ i).flatMap g++(g i++(TS (i+1) (n-(i+1))).flatMap g):=by
 have:SZ n=SZ i++(i::TS (i+1) (n-(i+1))):=by
  rw[U8,U8,<- VU];have:=Y6 (s:=0) (m:=i) (n:=n-(i+1)+1);rw[Ws]at this;rw[this];congr 1;omega
 rw[this,UX,Ub]
theorem NI{α:Type}{l:List α}{i:Nat}{v:α}(h:i<l.length):(l.set i v).take (i+1)=l.take i++[v]:=by
 rw[WA,Z1,UQ,if_pos rfl,if_pos h,List.set_eq_of_length_le (by simp;omega)];rfl
namespace Tk
def je (h:List Int)(hour j:Nat)(n:Int):List Int:=h.take hour++TH j n++h.drop (hour+j)
theorem E_{h:List Int}{hour j:Nat}{n:Int}(hj:hour+j<=h.length):(je h hour j n).length=h.length:=by simp[je];omega
theorem aiL(h:List Int)(hour:Nat)(n:Int):je h hour 0 n=h:=by simp[je]
theorem Jn{h:List Int}{hour j:Nat}{n:Int}(hj:hour+j<h.length):(je h hour j n).set (hour+j) n=je h hour (j+1) n:=by
 unfold je;have hl:(h.take hour++TH j n).length=hour+j:=by simp;omega
 rw[T9 _ _ (by omega),hl,Vf,List.replicate_succ'];rw[TQ hj,TZ,SC,SC,SC];rfl
theorem aiK{h:List Int}{hour j:Nat}{n:Int}(hn:h[hour]?=some n)(hj:hour+j<=h.length):(je h hour j n)[hour]?=some n:=by
 have hl:=eR hn;unfold je;rw[SC,S9 (by simp;omega)];have:hour-(h.take hour).length=0:=by simp;omega
 rw[this];cases j with
 |zero=>simpa using hn
 |succ j=>simp[Ww]
theorem aiJ{h pre:List Int}{hour:Nat}{n:Int}(h4:h.length=4)(hn:h[hour]?=some n)(hp:pre=h.take (hour+1)):je h hour (4-hour) n=cL pre:=by
 have hl:=eR hn;have e:pre=h.take hour++[n]:=by rw[hp,WA,hn];rfl
 unfold je cL;rw[TV (by omega),SO,e];have h1:(h.take hour++[n]).length=hour+1:=by simp;omega
 rw[h1,show (h.take hour++[n]).getLastD 0=n by simp[Vl],SC];congr 1;rw[show 4-hour=(4-(hour+1))+1 by omega,Ww];rfl
theorem abK{h pre:List Int}{hour:Nat}{n:Int}(hn:h[hour]?=some n)(hp:pre=h.take (hour+1)):pre.length=hour+1/\pre.getLastD 0=n:=by
 have hl:=eR hn;have e:pre=h.take hour++[n]:=by rw[hp,WA,hn];rfl
 subst e;exact⟨by simp;omega,by simp[Vl]⟩
end Tk
open Go.Conc Go.Proofs Go.Gg.Tk
section
variable {lv:Bool}
def qj (yv:AV)(N ir it:Nat)(h:List Int):List aa:=[.cells [yv] 130,.cells (h.map iv) 83,.cells [.fn (.func 87) [] [.op ir 0,.op (N+1) 0]] 68,.cells [.fn (.func 89) [] [.op (N+2) 0,.op ir 0,.op (N+1) 0,.op N 0,.op it 0,.op (N+3) 0]] 68]
theorem aiw{x:aj}{bi N ir it:Nat}{yv pv:AV}{S:Type}{f:S->List Int->dC S}{Gf:S->List aa}{I:S->Prop}{A:List Int->Prop}(hx:x.Ok)(hY:jU lv SA yv f Gf N I A pv)(hr:∀σ L,(Gf σ++L)[ir]?=some (.cells x.l 76))(ht:∀σ L,(Gf σ++L)[it]?=some (.cells [iv bi] 3))(lT:bi<=3):
  ∀(d hour:Nat)(h pre:List Int)(n0:Int)(σ:S)(M:List aa)(k kp:AV->List aa->Prop),d+hour=x.hours.toNat->h.length=4->h[hour]?=some n0->(0<=n0/\n0<=90+3* hour)->pre=h.take (hour+1)->I σ->(∀a∈mN x bi d pre,A a)->
   (∀h',h'.length=4->h'.take (hour+1)=pre->cX Gf pv k kp (qj yv N ir it h'++M) (bD f (mN x bi d pre) σ))->
   bh lv SA 89 (Gf σ++(qj yv N ir it h++M)) [iv hour,.op (N+2) 0,.op ir 0,.op (N+1) 0,.op N 0,.op it 0,.op (N+3) 0] k kp:=by
 intro d;induction d with
 |zero=>
  intro hour h pre n0 σ M k kp pf h4 oC hb hp hI hA hk;refine bF (rs:=[.tmp 8]) (nt:=61) ak' λhH uw=> ?_;simp only[bk,SV];obtain⟨dG,uN⟩:=abK oC hp;have pj:hour<4:=by have:=eR oC;omega
  have KD:=hx.hours;have bO:x.l=[iv x.first,iv x.hours,iv x.am,dS x.seen,aW x.pieces,aW x.aB]:=rfl;have g0:∀(σ:S)(L:List aa),(Gf σ++L)[N]?=L[0]?:=λσ L=>hY.get σ L 0;have g1:∀(σ:S)(L:List aa),(Gf σ++L)[N+1]?=L[1]?:=λσ L=>hY.get σ L 1;have g2:∀(σ:S)(L:List aa),(Gf σ++L)[N+2]?=L[2]?:=λσ L=>hY.get σ L 2;have s1:∀(σ:S)(L:List aa) x,(Gf σ++L).set (N+1) x=Gf σ++L.set 1 x:=λσ L x=>hY.set σ L 1 x;rw[mN,dG,uN,VZ]at hA hk;refine ak ?_;refine ai ?_;simp only[seval,g2,qj];refine aI ((P_ (x:=x) (h:=h) (n:=n0) hx h4 oC (hr _ _) (by rw[g1];rfl) ?_));(try simp only[seval]);refine aD ?_;refine⟨λhs=> ?_,λhs=> ?_⟩
  ·refine ak ?_;refine aZ ?_;have:=hk h h4 hp.symm;rw[hs]at this;simp only[TN,if_false,bD,cX]at this;exact bW this
  ·rw[if_pos hs]at hA hk;rw[Nn]at hk;have RD:(hour:Int)=x.hours:=(by omega);refine aN ?_;refine ai ?_;simp only[seval,hr,bO];refine aD ?_;refine⟨λhc=> ?_,λhc=>by exfalso;simp at hc;omega⟩;refine ak ?_;refine cq ?_;refine gD (4-hour) (λj:Nat=>[(9,iv ((hour+j:Nat):Int))]) (λj=>Gf σ++(qj yv N ir it (je h hour j n0)++M)) (λj=>True) (λ_ _=>rfl) (by simp only[seval];simp[bu,Wk.refl]) (by rw[aiL];rfl) (λm _ _=>by simp[qj]) trivial (λbQ cP j oz hj R hR=> ?_);refine ak ?_;refine aD ?_;refine⟨λhc=> ?_,λhc=> ?_⟩
   ·have eU:j<4-hour:=(by omega);have bb:(0<=(hour:Int)/\(hour:Int)<4)=True:=(by simp;omega);have bj:(0<=(hour:Int)+(j:Int)/\(hour:Int)+(j:Int)<4)=True:=(by simp;omega);have xY:((hour:Int)+(j:Int)).toNat=hour+j:=(by omega);have lh:(je h hour j n0).length=4:=(by rw[E_ (by omega),h4]);have mf:(U9 iv (je h hour j n0)).length=4:=(by rw[Tn,lh]);have hw:SD.wrap ((hour:Int)+(j:Int)+1)=(hour:Int)+((j+1:Nat):Int):=(by rw[bA _ (by omega)];push_cast;omega);refine aN ?_;refine ai ?_;simp only[seval,g1,s1,qj,bb,bj,xY,mf,kX (aiK oC (show hour+j<=h.length by omega))];refine⟨by omega,?_⟩;rw[wM (by omega),Jn (by omega)];refine ai ?_;simp only[seval,hw];exact hR _ ⟨eU,trivial,da⟩
   ·have:j=4-hour:=(by omega);subst this;have FZ:=aiJ h4 oC hp;rw[FZ];have FY:(cL pre).length=4:=(by rw[<- FZ,E_ (by omega),h4]);have tz:((cL pre).map iv).length=4:=(by rw[Tn,FY]);have nI:(cL pre).take (hour+1)=pre:=(by unfold cL;rw[Tw (by omega),SX (by omega)]);refine bX ?_;refine ai ?_;simp only[seval,g0,g1,qj,tz];rw[SX (i:=4) (l:=(cL pre).map iv) (by rw[tz];exact SQ _)];refine xh (hY.call σ (cL pre) (qj yv N ir it (cL pre)++M) _ _ hI (hA _ (by simp)) ?_);have aJ:=hk (cL pre) FY nI;cases hf:f σ (cL pre)with
    |go σ'=>
     rw[hf]at aJ;simp only[cX]at aJ⊢;(try simp only[seval]);refine aZ ?_;exact bW aJ
    |stop σ'=>
     rw[hf]at aJ;simp only[cX]at aJ⊢;(try simp only[seval]);refine aZ ?_;exact bW aJ
    |bad σ'=>
     rw[hf]at aJ;simp only[cX]at aJ⊢;exact bW aJ
 |succ d ih=>
  intro hour h pre n0 σ M k kp pf h4 oC hb hp hI hA hk;refine bF (rs:=[.tmp 8]) (nt:=61) ak' λhH uw=> ?_;simp only[bk,SV];obtain⟨dG,uN⟩:=abK oC hp;have KD:=hx.hours;have hpr:=hx.am;have RB:hour<3:=by omega
  have bO:x.l=[iv x.first,iv x.hours,iv x.am,dS x.seen,aW x.pieces,aW x.aB]:=rfl;have g1:∀(σ:S)(L:List aa),(Gf σ++L)[N+1]?=L[1]?:=λσ L=>hY.get σ L 1;have g2:∀(σ:S)(L:List aa),(Gf σ++L)[N+2]?=L[2]?:=λσ L=>hY.get σ L 2;have g3:∀(σ:S)(L:List aa),(Gf σ++L)[N+3]?=L[3]?:=λσ L=>hY.get σ L 3;have s1:∀(σ:S)(L:List aa) x,(Gf σ++L).set (N+1) x=Gf σ++L.set 1 x:=λσ L x=>hY.set σ L 1 x;rw[mN,dG,uN,VZ]at hA hk;refine ak ?_;refine ai ?_;simp only[seval,g2,qj];refine aI ((P_ (x:=x) (h:=h) (n:=n0) hx h4 oC (hr _ _) (by rw[g1];rfl) ?_));(try simp only[seval]);refine aD ?_;refine⟨λhs=> ?_,λhs=> ?_⟩
  ·refine ak ?_;refine aZ ?_;have:=hk h h4 hp.symm;rw[hs]at this;simp only[TN,if_false,bD,cX]at this;exact bW this
  ·rw[if_pos hs]at hA hk;have RD:¬(hour:Int)=x.hours:=(by omega);refine aN ?_;refine ai ?_;simp only[seval,hr,bO];refine aD ?_;refine⟨λhc=>by exfalso;exact RD hc,λhc=> ?_⟩;refine aN ?_;refine ai ?_;simp only[seval,hr,bO,bA (x.am+1) (by omega)];generalize hg:(λn:Nat=>if hour+1=1/\n≠bi then[]else mN x bi d (pre++[n0+(n:Int)]))=g at hA hk;refine cq ?_;refine za (measure λm:Nat×S×List Int=>(x.am.toNat+1)-m.1).wf (λm=>[(37,iv (m.1:Nat))]) (λm=>Gf m.2.1++(qj yv N ir it m.2.2++M)) (λm=>m.1<=x.am.toNat+1/\bD f ((SZ m.1).flatMap g) σ=.go m.2.1/\m.2.2.length=4/\m.2.2.take (hour+1)=pre) (0,σ,h) (λ_ _=>rfl) (by intro p hp;simp at hp;subst hp;exact⟨_,rfl,Wk.refl _⟩) rfl (λ_ _=>by simp[qj,hY.len]) ⟨by omega,rfl,h4,hp.symm⟩ (λbQ cP m au R hR=> ?_);obtain⟨i,τ,hq⟩:=m;obtain⟨hi,bH,Ab,Ad⟩:=au;replace hi:i<=x.am.toNat+1:=hi;replace bH:bD f ((SZ i).flatMap g) σ=.go τ:=bH;replace Ab:hq.length=4:=Ab;replace Ad:hq.take (hour+1)=pre:=Ad;have Ac:hq[hour]?=some n0:=by
    have h1:(hq.take (hour+1))[hour]?=some n0:=(by rw[Ad,hp,Ue,if_pos (by omega)];exact oC);rwa [Ue,if_pos (by omega)]at h1
   refine ak ?_;refine aD ?_;refine⟨λhc=> ?_,λhc=> ?_⟩
   ·have bB:i<x.am.toNat+1:=(by omega);have bM:SD.wrap ((i:Int)+1)=((i+1:Nat):Int):=(by rw[bA _ (by omega)];rfl);have rN:=Jv g bB;have tG:=Jw g i;have Cd:I τ:=AM (A:=A) hY.inv _ σ τ (λa ha=>hA a (by rw[rN];exact Tf _ ha)) hI bH;refine aN ?_;refine ak ?_;have hqm:(U9 iv hq).length=4:=(by rw[Tn,Ab]);have bb:(0<=(hour:Int)/\(hour:Int)<4)=True:=(by simp;omega);have bb1:(0<=(hour:Int)+1/\(hour:Int)+1<4)=True:=(by simp;omega);have pt:((hour:Int)+1).toNat=hour+1:=(by omega);have hwh:SD.wrap ((hour:Int)+1)=(hour:Int)+1:=bA _ (by omega);have LK:SD.wrap (n0+(i:Int))=n0+(i:Int):=bA _ (by omega);refine ai ?_;simp only[seval,ht];refine xA (λh2=> ?ga) (λh2=> ?gb)
    case' ga=>
     (try simp only[seval,ht]);refine aD ?_;refine⟨λh3=> ?gc,λh3=> ?gd⟩
     case gc=>
      have aM:g i=[]:=(by rw[<- hg];exact if_pos ⟨by simp at h2;omega,by omega⟩);refine bX ?_;refine ai ?_;simp only[seval,bM];exact hR _ ⟨(i+1,τ,hq),(by show x.am.toNat+1-(i+1)<x.am.toNat+1-i;omega),⟨by omega,by rw[tG,aM,SO];exact bH,Ab,Ad⟩,da⟩
    case' gb=>
     (try simp only[seval]);refine aD ?_
    all_goals
     have aM:g i=mN x bi d (pre++[n0+(i:Int)]):=by
      rw[<- hg];refine if_neg ?_
      rintro⟨q1,q2⟩
      first|(simp at h3;omega)|(simp at h2;omega)
     refine aN ?_;refine ai ?_;simp only[seval,g1,s1,qj,bb,bb1,pt,hwh,LK,hqm,kX Ac];refine⟨by omega,?_⟩;rw[wM (show hour+1<hq.length by omega)];refine ai ?_;simp only[seval,g3,hwh];have ak3:(hq.set (hour+1) (n0+(i:Int))).length=4:=(by rw[TF,Ab]);have hqt:pre++[n0+(i:Int)]=(hq.set (hour+1) (n0+(i:Int))).take (hour+1+1):=(by rw[NI (by omega),Ad]);refine aI ((ih (hour+1) (hq.set (hour+1) (n0+(i:Int))) (pre++[n0+(i:Int)]) (n0+(i:Int)) τ M _ _ (by omega) ak3 (by rw[UQ,if_pos rfl,if_pos (by omega)]) (by omega) hqt Cd (λa ha=>hA a (by rw[rN,aM];exact S4 _ (Tf _ ha))) (λh' rl ak2=> ?_)));have Lg:h'.take (hour+1)=pre:=by
      have e:h'.take (hour+1)=(h'.take (hour+1+1)).take (hour+1):=(by rw[U3];congr 1;omega);rw[e,ak2,Tw (WI dG.symm),SX (WI dG)]
     have Am:bD f ((SZ (x.am.toNat+1)).flatMap g) σ=match bD f (g i) τ with
       |.go s'=>bD f ((TS (i+1) (x.am.toNat+1-(i+1))).flatMap g) s'
       |r=>r:=by
      rw[rN,qF,bH];exact qF f (g i) _ τ
     rw[<- aM];cases hf:bD f (g i) τ with
     |go τ'=>
      simp only[cX];(try simp only[seval]);refine aD ?_;refine aN ?_;refine ai ?_;simp only[seval,bM];exact hR _ ⟨(i+1,τ',h'),(by show x.am.toNat+1-(i+1)<x.am.toNat+1-i;omega),⟨by omega,by rw[tG,qF,bH];exact hf,rl,Lg⟩,da⟩
     |stop τ'=>
      simp only[cX];(try simp only[seval]);refine aD ?_;refine ak ?_;refine aZ ?_;have aJ:=hk h' rl Lg;rw[Am,hf]at aJ;exact bW aJ
     |bad τ'=>
      simp only[cX];have aJ:=hk h' rl Lg;rw[Am,hf]at aJ;exact bW aJ
   ·have dx:i=x.am.toNat+1:=(by omega);subst dx;have aJ:=hk hq Ab Ad;rw[bH]at aJ;refine bX ?_;refine ak ?_;refine aZ ?_;exact bW aJ
theorem vp{P:SI}{yv pv:AV}{S:Type}{f:S->List Int->dC S}{Gf:S->List aa}{N:Nat}{I:S->Prop}{A:List Int->Prop}{k:AV->List aa->Prop}(hY:jU lv P yv f Gf N I A pv){σ σ':S}{L:List aa}{a:AV}(hH:bI (Gf σ))(ha:∀n,Lt n a)(hk:k a (Gf σ')):cF (Gf σ).length (Gf σ'++L) a k:=by
 refine jy (H':=Gf σ') (Wk.refl _) rfl (by rw[hY.len,hY.len];exact SQ _) ?_ (ha _) hk;have:=hY.au (σ:=σ) (M:=[]) (by simpa using hH) σ';simpa using this
theorem Jh{H:List aa}{k kp:AV->List aa->Prop}{x:aj}{n:Int}(hk:k (.fn (.func 86) [] [.op H.length 0,.op (H.length+1) 0]) (H++[.cells x.l 76,.cells [iv n] 3])):bh lv SA 64 H [x.av,iv n] k kp:=by
 refine bF (rs:=[.tmp 4]) (nt:=6) Tryz.f64 λhH hA=> ?_;simp only[bk,SV,aj.av];refine ak ?_;refine ai ?_;simp only[seval,T_,UD,Uj,TP];refine aZ ?_;exact bW hk
theorem Jk{x:aj}{bi N ir it:Nat}{yv pv:AV}{S:Type}{f:S->List Int->dC S}{Gf:S->List aa}{I:S->Prop}{A:List Int->Prop}{σ:S}{k kp:AV->List aa->Prop}(hx:x.Ok)(hY:jU lv SA yv f Gf N I A pv)(hr:∀σ L,(Gf σ++L)[ir]?=some (.cells x.l 76))(ht:∀σ L,(Gf σ++L)[it]?=some (.cells [iv bi] 3))(lT:bi<=3)
  (mi:∀n,Lt n pv) (hI:I σ) (hA:∀a∈kv x bi,A a) (hk:f_ Gf pv k kp [] (bD f (kv x bi) σ)):bh lv SA 86 (Gf σ) [yv,.op ir 0,.op it 0] k kp:=by
 refine bF (rs:=[]) (nt:=15) Tryz.f86 λhH uw=> ?_;simp only[bk,SV];have hN:=hY.len σ;have bO:x.l=[iv x.first,iv x.hours,iv x.am,dS x.seen,aW x.pieces,aW x.aB]:=rfl;refine ai ?_;simp only[seval,hY.parts];refine ak ?_;refine ai ?_;simp only[seval,T_,UD,Uj,TP];refine ak ?_;refine ai ?_;simp only[seval,T_,UD,Uj,TP];refine ai ?_;simp only[seval,hr,bO];refine ak ?_;have h0:=hx.first;have hh:=hx.hours;have Lf:[x.first]=Ui (0+1) [x.first,0,0,0]:=rfl;refine aI (?_);rw[hN];refine aiw (x:=x) (bi:=bi) hx hY hr ht lT x.hours.toNat 0 [x.first,0,0,0] [x.first] x.first σ [] _ _ rfl rfl rfl (by omega) Lf hI hA (λh' rl z_=> ?_);change cX Gf pv _ _ _ (bD f (kv x bi) σ);have rV:∀n,Lt n (.aL []):=λn=>by simp[jL]
 cases hf:bD f (kv x bi) σ with
 |go s=>
  rw[hf]at hk;simp only[cX,f_]at hk⊢;rw[SO]at hk;(try simp only[seval]);rw[<- hN];exact vp hY hH rV hk
 |stop s=>
  rw[hf]at hk;simp only[cX,f_]at hk⊢;rw[SO]at hk;(try simp only[seval]);rw[<- hN];exact vp hY hH rV hk
 |bad s=>
  rw[hf]at hk;simp only[cX,f_]at hk⊢;rw[SO]at hk;rw[<- hN];exact vp hY hH mi hk
end
theorem PG{α:Type}{l:List α}{i j:Nat}{v:α}(h:i<j):(l.set i v).drop j=l.drop j:=by
 apply Yk;intro k;rw[Uo,Uo,T6 (by omega)]
theorem zn{α:Type}{g:α->AV}{xs:List α}{i:Nat}{x:α}(h:xs[i]?=some x):(xs.map g).drop i=g x::(xs.drop (i+1)).map g:=by
 rw[<- af_,vU h,UW]
namespace Tk
def ac2 (k:Nat):List Int:=TH (4-k) (-1)++[-1, -1, -1]
structure oS (h:List Int)(k p:Nat)(t:List Nat)(tc:List Int):Prop where
 len:tc.length=11
 pre:tc.take (4+p)=h++t.map λn:Nat=>(n:Int)
 tl:tc.drop (4+k)=ac2 k
theorem oS.all{h:List Int}{k:Nat}{t:List Nat}{tc:List Int}(ht:t.length=k)(n:oS h k k t tc):tc=dQ h t:=by
 have:=Vj (4+k) tc;rw[n.pre,n.tl]at this;rw[<- this];unfold dQ lz ac2;rw[ht];simp[SC]
theorem oS.back{h:List Int}{k p:Nat}{t:List Nat}{n:Nat}{tc:List Int}(h4:h.length=4)(ht:t.length=p)(q:oS h k (p+1) (t++[n]) tc):oS h k p t tc:=by
 refine⟨q.len,?_,q.tl⟩;have e:tc.take (4+p)=(tc.take (4+(p+1))).take (4+p):=by rw[U3];congr 1;omega
 rw[e,q.pre,TD,<- SC,Tw (by simp[h4,ht]),SX (by simp[h4,ht])]
theorem oS.next{h:List Int}{k p:Nat}{t:List Nat}{n:Nat}{tc:List Int}(hp:p<k)(hk:k<=4)(q:oS h k p t tc):oS h k (p+1) (t++[n]) (tc.set (4+p) (n:Int)):=by
 refine⟨by rw[TF];exact q.len,?_,?_⟩
 ·rw[show 4+(p+1)=(4+p)+1 by omega,NI (by rw[q.len];omega),q.pre];simp
 ·rw[PG (by omega)];exact q.tl
theorem anB{h:List Int}{q:Nat}{qs:List Nat}{u:Nat}{t:List Nat}:(kP (q::qs) u t).map (dQ h)=(SZ 9).flatMap λn=>if u.testBit n|| !q.testBit n then[]else(kP qs (u|||2^n) (t++[n])).map (dQ h):=by
 rw[kP,Vx];congr 1;funext n;split<;>rfl
end Tk
section
variable {lv:Bool}
def tR (yv:AV)(N ir:Nat)(ps:List Nat)(tc:List Int):List aa:=[.cells [yv] 132,.cells (tc.map iv) 86,.cells (ps.map λn=>wv n) 80,.cells [.fn (.func 107) [] [.op ir 0,.op N 0,.op (N+1) 0,.op (N+2) 0,.op (N+3) 0]] 157]
theorem ahJ{x:aj}{h ps N ir:_}{yv pv:AV}{S:Type}{f:S->List Int->dC S}{Gf:S->List aa}{I:S->Prop}{A:List Int->Prop}(hx:x.Ok)(h4:h.length=4)(hY:jU lv SA yv f Gf N I A pv)(hr:∀σ L,(Gf σ++L)[ir]?=some (.cells x.l 76))(rK:ps=x.pieces.map (bZ h)++TH (4-x.pieces.length) 0):
  ∀(d p u:Nat)(t:List Nat)(tc:List Int)(σ:S)(M:List aa)(k kp:AV->List aa->Prop),d+p=x.pieces.length->u<65536->t.length=p->oS h x.pieces.length p t tc->I σ->(∀a∈(kP ((x.pieces.map (bZ h)).drop p) u t).map (dQ h),A a)->
   (∀ee,oS h x.pieces.length p t ee->cX Gf pv k kp (tR yv N ir ps ee++M) (bD f ((kP ((x.pieces.map (bZ h)).drop p) u t).map (dQ h)) σ))->
   bh lv SA 107 (Gf σ++(tR yv N ir ps tc++M)) [iv p,wv u,.op ir 0,.op N 0,.op (N+1) 0,.op (N+2) 0,.op (N+3) 0] k kp:=by
 intro d;induction d with
 |zero=>
  intro p u t tc σ M k kp Kh hu ht hT hI hA hk;refine bF (rs:=[.tmp 9]) (nt:=47) ag2 λhH uw=> ?_;simp only[bk,SV];have bO:x.l=[iv x.first,iv x.hours,iv x.am,dS x.seen,aW x.pieces,aW x.aB]:=rfl;have g0:∀(σ:S)(L:List aa),(Gf σ++L)[N]?=L[0]?:=λσ L=>hY.get σ L 0;have g1:∀(σ:S)(L:List aa),(Gf σ++L)[N+1]?=L[1]?:=λσ L=>hY.get σ L 1;have dG:p=x.pieces.length:=by omega
  have wc:(x.pieces.map (bZ h)).drop p=[]:=TV (by simp;omega);rw[wc,kP]at hA hk;rw[Y8]at hA hk;rw[Nn]at hk;have ya:tc=dQ h t:=by subst dG;exact hT.all ht
  have kg:(tc.map iv).length=11:=by rw[Tn,hT.len]
  refine ak ?_;(repeat apply iA);refine OR ?_;refine ai ?_;simp only[seval,hr,bO,aW];refine aD ?_;refine⟨λhc=> ?_,λhc=>by exfalso;simp at hc;omega⟩;refine ai ?_;simp only[seval,g0,g1,tR,kg];rw[SX (i:=11) (l:=tc.map iv) (by rw[kg];exact SQ _)];rw[<- ya]at hA hk;have aJ:=hk tc hT;refine xh (hY.call σ tc (tR yv N ir ps tc++M) _ _ hI (hA _ (by simp)) ?_);cases hf:f σ tc with
  |go σ'=>
   rw[hf]at aJ;simp only[cX]at aJ⊢;(try simp only[seval]);refine aZ ?_;exact bW aJ
  |stop σ'=>
   rw[hf]at aJ;simp only[cX]at aJ⊢;(try simp only[seval]);refine aZ ?_;exact bW aJ
  |bad σ'=>
   rw[hf]at aJ;simp only[cX]at aJ⊢;exact bW aJ
 |succ d ih=>
  intro p u t tc σ M k kp Kh hu ht hT hI hA hk;refine bF (rs:=[.tmp 9]) (nt:=47) ag2 λhH uw=> ?_;simp only[bk,SV];have bO:x.l=[iv x.first,iv x.hours,iv x.am,dS x.seen,aW x.pieces,aW x.aB]:=rfl;have g1:∀(σ:S)(L:List aa),(Gf σ++L)[N+1]?=L[1]?:=λσ L=>hY.get σ L 1;have g2:∀(σ:S)(L:List aa),(Gf σ++L)[N+2]?=L[2]?:=λσ L=>hY.get σ L 2;have g3:∀(σ:S)(L:List aa),(Gf σ++L)[N+3]?=L[3]?:=λσ L=>hY.get σ L 3;have s1:∀(σ:S)(L:List aa) x,(Gf σ++L).set (N+1) x=Gf σ++L.set 1 x:=λσ L x=>hY.set σ L 1 x;have nH:=hx.eD;have FY:p<4:=by omega
  obtain⟨y,hy⟩:=b9 (xs:=x.pieces) (i:=p) (by omega);have uY:(x.pieces.map (bZ h))[p]?=some (bZ h y):=by rw[To,hy];rfl
  have iE:ps[p]?=some (bZ h y):=by rw[rK,SW (by simp;omega)];exact uY
  have mj:bZ h y<65536:=Wn (Qg h y) (by decide);have aH:¬(p:Int)=(x.pieces.length:Int):=by omega
  rw[vU uY,anB]at hA hk;generalize hg:(λn=>if u.testBit n|| !(bZ h y).testBit n then[]else(kP ((x.pieces.map (bZ h)).drop (p+1)) (u|||2^n) (t++[n])).map (dQ h))=g at hA hk;refine ak ?_;(repeat apply iA);refine OR ?_;refine ai ?_;simp only[seval,hr,bO,aW];refine aD ?_;refine⟨λhc=>by exfalso;exact aH (by simpa using hc),λhc=> ?_⟩;refine aN ?_;(repeat apply iA);refine OL ?_;simp only[seval];refine ak ?_;refine cq ?_;refine za (measure λm:Nat×S×List Int=>9-m.1).wf (λm=>[(20,iv (m.1:Nat))]) (λm=>Gf m.2.1++(tR yv N ir ps m.2.2++M)) (λm=>m.1<=9/\bD f ((SZ m.1).flatMap g) σ=.go m.2.1/\oS h x.pieces.length p t m.2.2) (0,σ,tc) (λ_ _=>rfl) (by intro p hp;simp at hp;subst hp;exact⟨_,rfl,Wk.refl _⟩) rfl (λ_ _=>by simp[tR,hY.len]) ⟨by omega,rfl,hT⟩ (λbQ cP m au R hR=> ?_);obtain⟨i,τ,tq⟩:=m;obtain⟨hi,bH,lJ⟩:=au;replace hi:i<=9:=hi;replace bH:bD f ((SZ i).flatMap g) σ=.go τ:=bH;replace lJ:oS h x.pieces.length p t tq:=lJ;refine ak ?_;refine aD ?_;refine⟨λhc=> ?_,λhc=> ?_⟩
  ·have bB:i<9:=(by omega);have bM:SD.wrap ((i:Int)+1)=((i+1:Nat):Int):=(by rw[bA _ (by omega)];rfl);have rN:=Jv g bB;have tG:=Jw g i;have Cd:I τ:=AM (A:=A) hY.inv _ σ τ (λa ha=>hA a (by rw[rN];exact Tf _ ha)) hI bH;have b4:(0<=(p:Int)/\(p:Int)<4)=True:=(by simp;omega);have DU:(u.testBit i|| !(bZ h y).testBit i)=true->g i=[]:=λe=>(by rw[<- hg];exact if_pos e);have JD:(u.testBit i|| !(bZ h y).testBit i)=false->g i=(kP ((x.pieces.map (bZ h)).drop (p+1)) (u|||2^i) (t++[i])).map (dQ h):=λe=>(by rw[<- hg];exact if_neg (by rw[e];simp));refine aN ?_;refine ak ?_;refine ai ?_;simp only[seval,g2,tR,b4,zn iE];refine aI ((xu hu ?_));(try simp only[seval,g2,tR,b4,zn iE]);refine xA (λh2=> ?_) (λh2=> ?_)
   ·(try simp only[seval,g2,tR,b4,zn iE]);refine aI ((xu mj ?_));(try simp only[seval]);refine aD ?_;refine⟨λh3=> ?_,λh3=> ?_⟩
    ·have aM:=DU (by rw[h2];simpa using h3);refine bX ?_;refine ai ?_;simp only[seval,bM];exact hR _ ⟨(i+1,τ,tq),(by show 9-(i+1)<9-i;omega),⟨by omega,by rw[tG,aM,SO];exact bH,lJ⟩,da⟩
    ·have aM:=JD (by rw[h2];simpa using h3);have kg:(tq.map iv).length=11:=(by rw[Tn,lJ.len]);have Ix:4+p<tq.length:=(by rw[lJ.len];omega);have Ge:SD.wrap ((p:Int)+1)=((p+1:Nat):Int):=(by rw[bA _ (by omega)];rfl);refine aN ?_;refine ai ?_;simp only[seval,g1,s1,tR,b4];refine⟨by omega,?_⟩;rw[wM Ix];refine eO 6 ?_;simp only[seval,g3,Ge];refine iw (wv (u|||2^i)) (cx (uu hu (show i<16 by omega) ⟨rfl,rfl⟩)) ?_;rw[Ge];have lU:u|||2^i<65536:=pI hu (wR (by omega));refine aI ((ih (p+1) (u|||2^i) (t++[i]) (tq.set (4+p) (i:Int)) τ M _ _ (by omega) lU (by simp[ht]) (lJ.next (by omega) nH) Cd (λa ha=>hA a (by rw[rN,aM];exact S4 _ (Tf _ ha))) (λee sZ=> ?_)));have Cg:=sZ.back h4 ht;have Am:bD f ((SZ 9).flatMap g) σ=match bD f (g i) τ with
       |.go s'=>bD f ((TS (i+1) (9-(i+1))).flatMap g) s'
       |r=>r:=by
      rw[rN,qF,bH];exact qF f (g i) _ τ
     rw[<- aM];have aJ:=hk ee Cg;rw[Am]at aJ;cases hf:bD f (g i) τ with
     |go τ'=>
      simp only[cX];(try simp only[seval]);refine aD ?_;refine aN ?_;refine ai ?_;simp only[seval,bM];exact hR _ ⟨(i+1,τ',ee),(by show 9-(i+1)<9-i;omega),⟨by omega,by rw[tG,qF,bH];exact hf,Cg⟩,da⟩
     |stop τ'=>
      rw[hf]at aJ;simp only[cX]at aJ⊢;(try simp only[seval]);refine aD ?_;refine ak ?_;refine aZ ?_;exact bW aJ
     |bad τ'=>
      rw[hf]at aJ;simp only[cX]at aJ⊢;exact bW aJ
   ·(try simp only[seval]);refine aD ?_;have aM:=DU (by rw[show u.testBit i=true by simpa using h2];rfl);refine bX ?_;refine ai ?_;simp only[seval,bM];exact hR _ ⟨(i+1,τ,tq),(by show 9-(i+1)<9-i;omega),⟨by omega,by rw[tG,aM,SO];exact bH,lJ⟩,da⟩
  ·have dx:i=9:=(by omega);subst dx;have aJ:=hk tq lJ;rw[bH]at aJ;refine bX ?_;refine ak ?_;refine aZ ?_;exact bW aJ
end
open Go.Conc Go.Proofs Go.Gg.Tk
theorem Nu{α:Type}{g:α->AV}{xs:List α}{i:Nat}{y:α}(h:i<xs.length):(xs.map g).take i++[g y]++(xs.map g).drop (i+1)=(xs.set i y).map g:=by
 rw[List.map_set,XK,if_pos (by simpa using h)];simp
namespace Tk
def pX (l:List Nat)(i:Nat):List Nat:=l.take i++TH (4-i) 0
theorem afP{l:List Nat}{i q:Nat}(h:l[i]?=some q)(hl:l.length<=4):(pX l i).set i q=pX l (i+1):=by
 have hi:=eR h;unfold pX;rw[T9 _ _ (by simp;omega),show i-(l.take i).length=0 by simp;omega,show 4-i=(4-(i+1))+1 by omega,Ww,TZ,WA,h];simp
theorem afO{l:List Nat}{i:Nat}(hi:i<=l.length)(hl:l.length<=4):(pX l i).length=4:=by simp[pX];omega
theorem afN{l:List Nat}:pX l l.length=l++TH (4-l.length) 0:=by simp[pX]
end Tk
theorem Sf{H L:List aa}{c c':aa}(h:bI (H++(L++[c])))(hc:∀n,fb n c'):bI (H++(L++[c'])):=λz hz=>by
 have hl:(H++(L++[c'])).length=(H++(L++[c])).length:=by simp
 rw[hl];rcases SR.1 hz with h'|h'
 ·exact h z (Tf _ h')
 ·rcases SR.1 h' with h'|h'
  ·exact h z (S4 _ (Tf _ h'))
  ·rw[S8.1 h'];exact hc _
theorem abq(l:List Nat)(t n:Nat):fb n (.cells (l.map λn=>wv n) t):=by
 intro a ha;obtain⟨x,_,rfl⟩:=Tl.1 ha;exact .val _
theorem anP(l:List Int)(t n:Nat):fb n (.cells (l.map iv) t):=by
 intro a ha;obtain⟨x,_,rfl⟩:=Tl.1 ha;exact .val _
section
variable {lv:Bool}
theorem aix{H:List aa}{k kp:AV->List aa->Prop}{x:aj}{h:List Int}(hk:k (.fn (.func 106) [] [.op (H.length+1) 0,.op H.length 0]) (H++[.cells x.l 76,.cells (h.map iv) 83])):bh lv SA 92 H [x.av,.agg (h.map iv)] k kp:=by
 refine bF (rs:=[.tmp 4]) (nt:=6) Tryz.f92 λhH hA=> ?_;simp only[bk,SV,aj.av];refine ak ?_;refine ai ?_;simp only[seval,T_,UD,Uj,TP];refine aZ ?_;exact bW hk
theorem ahI{x:aj}{h:List Int}{N ir ih:Nat}{yv pv:AV}{S:Type}{f:S->List Int->dC S}{Gf:S->List aa}{I:S->Prop}{A:List Int->Prop}{σ:S}{k kp:AV->List aa->Prop}(hx:x.Ok)(hh:mD h)(hY:jU lv SA yv f Gf N I A pv)(hr:∀σ L,(Gf σ++L)[ir]?=some (.cells x.l 76))(hi:∀σ L,(Gf σ++L)[ih]?=some (.cells (h.map iv) 83))
  (mi:∀n,Lt n pv) (hI:I σ) (hA:∀a∈(fY x h).map (dQ h),A a) (hk:f_ Gf pv k kp [] (bD f ((fY x h).map (dQ h)) σ)):bh lv SA 106 (Gf σ) [yv,.op ih 0,.op ir 0] k kp:=by
 refine bF (rs:=[]) (nt:=45) Tryz.f106 λhH uw=> ?_;simp only[bk,SV];have hN:=hY.len σ;have nH:=hx.eD;have bO:x.l=[iv x.first,iv x.hours,iv x.am,dS x.seen,aW x.pieces,aW x.aB]:=rfl;obtain⟨a,b,c,d,rfl,ha,hb,hc,hd,hs⟩:=hh.out;have okH:∀L:List aa,(∀z∈L,∀n,fb n z)->bI (Gf σ++L):=λL hL z hz=>by
  rcases SR.1 hz with h|h
  ·exact(hH z h).mono (by simp)
  ·exact hL z h _
 refine ai ?_;simp only[seval,hY.parts];refine ai ?_;simp only[seval,hi];refine ak ?_;refine cq ?_;refine gD 4 (λi:Nat=>[(13,iv i)]) (λi=>Gf σ++[.cells [yv] 132,.cells ((je [a,b,c,d,0,0,0,0,0,0,0] 4 i (-1)).map iv) 86]) (λi=>True) (λ_ _=>rfl) (by simp only[seval];simp[bu,Wk.refl]) rfl (λ_ _ _=>by simp) trivial (λbQ cP i cK _ R hR=> ?_);refine ak ?_;refine aD ?_;refine⟨λhc=> ?_,λhc=> ?_⟩
 ·have bB:i<4:=by omega
  have b4:(0<=(i:Int)/\(i:Int)<4)=True:=by simp;omega
  have bM:SD.wrap ((i:Int)+1)=((i+1:Nat):Int):=by rw[bA _ (by omega)];rfl
  have lh:(je [a,b,c,d,0,0,0,0,0,0,0] 4 i (-1)).length=11:=E_ (by show 4+i<=11;omega);have mf:((je [a,b,c,d,0,0,0,0,0,0,0] 4 i (-1)).map iv).length=11:=by rw[Tn,lh]
  refine aN ?_;refine ak ?_;refine ai ?_;simp only[seval,b4,mf];refine⟨by omega,?_⟩;rw[wM (show 4+i<(je [a,b,c,d,0,0,0,0,0,0,0] 4 i (-1)).length by omega),Jn (by show 4+i<11;omega)];refine ai ?_;simp only[seval,bM];exact hR _ ⟨bB,trivial,da⟩
 have:i=4:=by omega
 subst this;clear hc cK;refine bX ?_;refine ak ?_;rw[show je [a,b,c,d,0,0,0,0,0,0,0] 4 4 (-1)=[a,b,c,d, -1, -1, -1, -1,0,0,0]from rfl];refine cq ?_;refine gD 3 (λi:Nat=>[(20,iv i)]) (λi=>Gf σ++[.cells [yv] 132,.cells ((je [a,b,c,d, -1, -1, -1, -1,0,0,0] 8 i (-1)).map iv) 86]) (λi=>True) (λ_ _=>rfl) (by simp only[seval];simp[bu,Wk.refl]) rfl (λ_ _ _=>by simp) trivial (λbQ cP i cK _ R hR=> ?_);refine ak ?_;refine aD ?_;refine⟨λhc=> ?_,λhc=> ?_⟩
 ·have bB:i<3:=by omega
  have b4:(0<=(i:Int)/\(i:Int)<3)=True:=by simp;omega
  have bM:SD.wrap ((i:Int)+1)=((i+1:Nat):Int):=by rw[bA _ (by omega)];rfl
  have lh:(je [a,b,c,d, -1, -1, -1, -1,0,0,0] 8 i (-1)).length=11:=E_ (by show 8+i<=11;omega);have mf:((je [a,b,c,d, -1, -1, -1, -1,0,0,0] 8 i (-1)).map iv).length=11:=by rw[Tn,lh]
  refine aN ?_;refine ak ?_;refine ai ?_;simp only[seval,b4,mf];refine⟨by omega,?_⟩;rw[wM (show 8+i<(je [a,b,c,d, -1, -1, -1, -1,0,0,0] 8 i (-1)).length by omega),Jn (by show 8+i<11;omega)];refine ai ?_;simp only[seval,bM];exact hR _ ⟨bB,trivial,da⟩
 have:i=3:=by omega
 subst this;clear hc cK;refine bX ?_;rw[show je [a,b,c,d, -1, -1, -1, -1,0,0,0] 8 3 (-1)=[a,b,c,d, -1, -1, -1, -1, -1, -1, -1]from rfl];refine ak ?_;refine ai ?_;simp only[seval,hr,bO,aW];refine cq ?_;refine gD x.pieces.length (λi:Nat=>[(31,iv i)]) (λi=>Gf σ++[.cells [yv] 132,.cells ([a,b,c,d, -1, -1, -1, -1, -1, -1, -1].map iv) 86,.cells ((pX (x.pieces.map (bZ [a,b,c,d])) i).map λn=>wv n) 80]) (λi=>True) (λ_ _=>rfl) (by simp only[seval];simp[bu,Wk.refl]) rfl (λ_ _ _=>by simp) trivial (λbQ cP i cK _ R hR=> ?_);refine ak ?_;refine aD ?_;refine⟨λhc=> ?_,λhc=> ?_⟩
 ·have bB:i<x.pieces.length:=by omega
  obtain⟨y,hy⟩:=b9 bB;have uY:(x.pieces.map (bZ [a,b,c,d]))[i]?=some (bZ [a,b,c,d] y):=by rw[To,hy];rfl
  have b4:(0<=(i:Int)/\(i:Int)<4)=True:=by simp;omega
  have bM:SD.wrap ((i:Int)+1)=((i+1:Nat):Int):=by rw[bA _ (by omega)];rfl
  have cO:(pX (x.pieces.map (bZ [a,b,c,d])) i).length=4:=afO (by simp;omega) (by simpa using nH);have v_:((pX (x.pieces.map (bZ [a,b,c,d])) i).map λn=>wv n).length=4:=by rw[Tn,cO]
  refine aN ?_;refine ai ?_;simp only[seval,DO hy,jc bB];refine ai ?_;simp only[seval,hi,b4];refine aI ((EZ (h:=[a,b,c,d]) (y:=y) hh ?_));(try simp only[seval,b4,v_]);refine⟨by omega,?_⟩;rw[Nu (g:=λn=>wv n) (show i<(pX (x.pieces.map (bZ [a,b,c,d])) i).length by omega),afP uY (by simpa using nH)];refine ai ?_;simp only[seval,bM];exact hR _ ⟨bB,trivial,AL (pE rfl rfl) (by simp only[seval];simp[bu,Wk.refl]) (Sf (L:=[_,_]) bQ (abq _ _)) (by simp[eK])⟩
 have:i=x.pieces.length:=by omega
 subst this;clear hc cK;refine bX ?_;refine ak ?_;refine ai ?_;simp only[seval,T_,UD,Uj,TP];refine ak ?_;have rK:pX (x.pieces.map (bZ [a,b,c,d])) x.pieces.length=x.pieces.map (bZ [a,b,c,d])++TH (4-x.pieces.length) 0:=by
  have:=afN (l:=x.pieces.map (bZ [a,b,c,d]));simpa using this
 refine aI (?_);rw[hN];have rV:∀n,Lt n (.aL []):=λn=>by simp[jL]
 have hT0:∀ee,oS [a,b,c,d] x.pieces.length 0 [] ee->True:=λ_ _=>trivial;refine ahJ (x:=x) (h:=[a,b,c,d]) hx rfl hY hr rK x.pieces.length 0 0 [] [a,b,c,d, -1, -1, -1, -1, -1, -1, -1] σ [] _ _ rfl (by decide) rfl ⟨rfl,rfl,?_⟩ hI hA (λee sZ=> ?_)
 ·have:x.pieces.length=0\/x.pieces.length=1\/x.pieces.length=2\/x.pieces.length=3\/x.pieces.length=4:=by omega
  rcases this with e|e|e|e|e<;>rw[e]<;>rfl
 change cX Gf pv _ _ _ (bD f ((fY x [a,b,c,d]).map (dQ [a,b,c,d])) σ);cases hf:bD f ((fY x [a,b,c,d]).map (dQ [a,b,c,d])) σ with
 |go s=>
  rw[hf]at hk;simp only[cX,f_]at hk⊢;rw[SO]at hk;(try simp only[seval]);rw[<- hN];exact vp hY hH rV hk
 |stop s=>
  rw[hf]at hk;simp only[cX,f_]at hk⊢;rw[SO]at hk;(try simp only[seval]);rw[<- hN];exact vp hY hH rV hk
 |bad s=>
  rw[hf]at hk;simp only[cX,f_]at hk⊢;rw[SO]at hk;rw[<- hN];exact vp hY hH mi hk
end
open Go.Conc Go.Proofs Go.Gg.Tk
namespace Tk
structure n3 (h:List Int)(ns:List Nat)(k s:Nat)(o:List Nat)(tc:List Int):Prop where
 len:tc.length=11
 pre:tc.take (8+s)=h++lz 4 ns++o.map λn:Nat=>(n:Int)
 tl:tc.drop (8+k)=TH (3-k) (-1)
theorem n3.all{h:List Int}{ns:List Nat}{k:Nat}{o:List Nat}{tc:List Int}(ho:o.length=k)(n:n3 h ns k k o tc):tc=dA h ns o:=by
 have:=Vj (8+k) tc;rw[n.pre,n.tl]at this;rw[<- this];unfold dA
 conv=>rhs;unfold lz
 rw[ho,SC];rfl
theorem AH{k:Nat}{l:List Nat}(h:l.length<=k):(lz k l).length=k:=by simp[lz];omega
theorem n3.back{h:List Int}{ns:List Nat}{k s:Nat}{o:List Nat}{n:Nat}{tc:List Int}(h4:h.length=4)(hn:ns.length<=4)(ho:o.length=s)(q:n3 h ns k (s+1) (o++[n]) tc):n3 h ns k s o tc:=by
 refine⟨q.len,?_,q.tl⟩;have e:tc.take (8+s)=(tc.take (8+(s+1))).take (8+s):=by rw[U3];congr 1;omega
 have hp:=AH hn;rw[e,q.pre,TD,<- SC,Tw (by simp[h4,ho,hp];omega),SX (by simp[h4,ho,hp];omega)]
theorem n3.next{h:List Int}{ns:List Nat}{k s:Nat}{o:List Nat}{n:Nat}{tc:List Int}(hp:s<k)(hk:k<=3)(q:n3 h ns k s o tc):n3 h ns k (s+1) (o++[n]) (tc.set (8+s) (n:Int)):=by
 refine⟨by rw[TF];exact q.len,?_,?_⟩
 ·rw[show 8+(s+1)=(8+s)+1 by omega,NI (by rw[q.len];omega),q.pre];simp
 ·rw[PG (by omega)];exact q.tl
theorem n3.num{h:List Int}{ns:List Nat}{k s p:Nat}{o:List Nat}{tc:List Int}(h4:h.length=4)(hn:ns.length<=4)(hp:p<ns.length)(q:n3 h ns k s o tc):tc[4+p]?=some ((ns.getD p 0:Nat):Int):=by
 have h1:(tc.take (8+s))[4+p]?=some ((ns.getD p 0:Nat):Int):=by
  rw[q.pre,SC,S9 (by omega),h4,show 4+p-4=p by omega,SW (by rw[AH hn];omega)];unfold lz;rw[SW (by simpa using hp),To,SE,SY hp];rfl
 rwa [Ue,if_pos (by omega)]at h1
theorem an3{h:List Int}{ns:List Nat}{k q:Nat}{qs:List Nat}{u:Nat}{o:List Nat}:(mw k ns (q::qs) u o).map (dA h ns)=(SZ k).flatMap λp=>if u.testBit p|| !q.testBit (ns.getD p 0)then[]else(mw k ns qs (u|||2^p) (o++[p])).map (dA h ns):=by
 rw[mw,Vx];congr 1;funext n;split<;>rfl
end Tk
open Go.Conc Go.Proofs Go.Gg.Tk
section
variable {lv:Bool}
def yu (yv:AV)(N ir it is:Nat):List aa:=[.cells [yv] 132,.cells [.fn (.func 109) [] [.op ir 0,.op N 0,.op it 0,.op is 0,.op (N+1) 0]] 157]
theorem ahL{x:aj}{h:List Int}{ns qs:List Nat}{N ir it is:Nat}{yv pv:AV}{S:Type}{f:S->List Int->dC S}{Gf:List Int->S->List aa}{I:S->Prop}{A:List Int->Prop}(hx:x.Ok)(h4:h.length=4)(ik:ns.length=x.pieces.length)(hY:∀tc,jU lv SA yv f (Gf tc) N I A pv)(hr:∀tc σ L,(Gf tc σ++L)[ir]?=some (.cells x.l 76))
  (ht:∀tc σ L,(Gf tc σ++L)[it]?=some (.cells (tc.map iv) 86)) (dW:∀tc ee σ L,(Gf tc σ++L).set it (.cells (ee.map iv) 86)=Gf ee σ++L) (hs:∀tc σ L,(Gf tc σ++L)[is]?=some (.cells (qs.map λn=>wv n) 81)) (Ae:∃r,qs=x.aB.map (bZ h)++r) (x6:qs.length=3):
  ∀(d s u:Nat)(o:List Nat)(tc:List Int)(σ:S)(M:List aa)(k kp:AV->List aa->Prop),d+s=x.aB.length->u<65536->o.length=s->n3 h ns x.aB.length s o tc->I σ->(∀a∈(mw x.pieces.length ns ((x.aB.map (bZ h)).drop s) u o).map (dA h ns),A a)->
   (∀ee,n3 h ns x.aB.length s o ee->cX (Gf ee) pv k kp (yu yv N ir it is++M) (bD f ((mw x.pieces.length ns ((x.aB.map (bZ h)).drop s) u o).map (dA h ns)) σ))->
   bh lv SA 109 (Gf tc σ++(yu yv N ir it is++M)) [iv s,wv u,.op ir 0,.op N 0,.op it 0,.op is 0,.op (N+1) 0] k kp:=by
 intro d;induction d with
 |zero=>
  intro s u o tc σ M k kp pi hu ho hT hI hA hk;refine bF (rs:=[.tmp 9]) (nt:=54) af' λhH uw=> ?_;simp only[bk,SV];have bO:x.l=[iv x.first,iv x.hours,iv x.am,dS x.seen,aW x.pieces,aW x.aB]:=rfl;have g0:∀(tc:List Int)(σ:S)(L:List aa),(Gf tc σ++L)[N]?=L[0]?:=λtc σ L=>(hY tc).get σ L 0;have dG:s=x.aB.length:=by omega
  have wc:(x.aB.map (bZ h)).drop s=[]:=TV (by simp;omega);rw[wc,mw]at hA hk;rw[Y8]at hA hk;rw[Nn]at hk;have ya:tc=dA h ns o:=by subst dG;exact hT.all ho
  have kg:(tc.map iv).length=11:=by rw[Tn,hT.len]
  refine ak ?_;refine ai ?_;simp only[seval,hr,bO,aW];refine aD ?_;refine⟨λhc=> ?_,λhc=>by exfalso;simp at hc;omega⟩;refine ai ?_;simp only[seval,g0,ht,yu,kg];rw[SX (i:=11) (l:=tc.map iv) (by rw[kg];exact SQ _)];rw[<- ya]at hA hk;have aJ:=hk tc hT;refine xh ((hY tc).call σ tc (yu yv N ir it is++M) _ _ hI (hA _ (by simp)) ?_);cases hf:f σ tc with
  |go σ'=>
   rw[hf]at aJ;simp only[cX]at aJ⊢;(try simp only[seval]);refine aZ ?_;exact bW aJ
  |stop σ'=>
   rw[hf]at aJ;simp only[cX]at aJ⊢;(try simp only[seval]);refine aZ ?_;exact bW aJ
  |bad σ'=>
   rw[hf]at aJ;simp only[cX]at aJ⊢;exact bW aJ
 |succ d ihd=>
  intro s u o tc σ M k kp pi hu ho hT hI hA hk;refine bF (rs:=[.tmp 9]) (nt:=54) af' λhH uw=> ?_;simp only[bk,SV];have bO:x.l=[iv x.first,iv x.hours,iv x.am,dS x.seen,aW x.pieces,aW x.aB]:=rfl;have g1:∀(tc:List Int)(σ:S)(L:List aa),(Gf tc σ++L)[N+1]?=L[1]?:=λtc σ L=>(hY tc).get σ L 1;have nH:=hx.eD;have x8:=hx.dc;obtain⟨y,hy⟩:=b9 (xs:=x.aB) (i:=s) (by omega);have uY:(x.aB.map (bZ h))[s]?=some (bZ h y):=by rw[To,hy];rfl
  have iE:qs[s]?=some (bZ h y):=by obtain⟨r,e⟩:=Ae;rw[e,SW (by simp;omega)];exact uY
  have mj:bZ h y<65536:=Wn (Qg h y) (by decide);have aH:¬(s:Int)=(x.aB.length:Int):=by omega
  rw[vU uY,an3]at hA hk;generalize hg:(λp=>if u.testBit p|| !(bZ h y).testBit (ns.getD p 0)then[]else(mw x.pieces.length ns ((x.aB.map (bZ h)).drop (s+1)) (u|||2^p) (o++[p])).map (dA h ns))=g at hA hk;refine ak ?_;refine ai ?_;simp only[seval,hr,bO,aW];refine aD ?_;refine⟨λhc=>by exfalso;exact aH (by simpa using hc),λhc=> ?_⟩;refine aN ?_;refine ai ?_;simp only[seval,hr,bO,aW];refine cq ?_;refine za (measure λm:Nat×S×List Int=>x.pieces.length-m.1).wf (λm=>[(24,iv (m.1:Nat))]) (λm=>Gf m.2.2 m.2.1++(yu yv N ir it is++M)) (λm=>m.1<=x.pieces.length/\bD f ((SZ m.1).flatMap g) σ=.go m.2.1/\n3 h ns x.aB.length s o m.2.2) (0,σ,tc) (λ_ _=>rfl) (by intro p hp;simp at hp;subst hp;exact⟨_,rfl,Wk.refl _⟩) rfl (λ_ _=>by simp[yu,(hY _).len]) ⟨by omega,rfl,hT⟩ (λbQ cP m au R hR=> ?_);obtain⟨i,τ,tq⟩:=m;obtain⟨hi,bH,lJ⟩:=au;replace hi:i<=x.pieces.length:=hi;replace bH:bD f ((SZ i).flatMap g) σ=.go τ:=bH;replace lJ:n3 h ns x.aB.length s o tq:=lJ;refine ak ?_;refine aD ?_;refine⟨λhc=> ?_,λhc=> ?_⟩
  ·have bB:i<x.pieces.length:=(by omega);have bM:SD.wrap ((i:Int)+1)=((i+1:Nat):Int):=(by rw[bA _ (by omega)];rfl);have hws:SD.wrap ((s:Int)+1)=((s+1:Nat):Int):=(by rw[bA _ (by omega)];rfl);have rN:=Jv g bB;have tG:=Jw g i;have Cd:I τ:=AM (A:=A) (hY tc).inv _ σ τ (λa ha=>hA a (by rw[rN];exact Tf _ ha)) hI bH;have b3:(0<=(s:Int)/\(s:Int)<3)=True:=(by simp;omega);have b4:(0<=(i:Int)/\(i:Int)<4)=True:=(by simp;omega);have DU:(u.testBit i|| !(bZ h y).testBit (ns.getD i 0))=true->g i=[]:=λe=>(by rw[<- hg];exact if_pos e);have JD:(u.testBit i|| !(bZ h y).testBit (ns.getD i 0))=false->g i=(mw x.pieces.length ns ((x.aB.map (bZ h)).drop (s+1)) (u|||2^i) (o++[i])).map (dA h ns):=λe=>(by rw[<- hg];exact if_neg (by rw[e];simp));have Sc:=lJ.num h4 (by omega) (show i<ns.length by omega);refine aN ?_;refine ak ?_;refine eO 14 ?_;simp only[seval,ht,hs,b3,b4,zn iE,kX Sc];refine iw (bv (u.testBit i)) (cx (xu hu ⟨rfl,rfl⟩)) ?_;(try simp only[seval]);refine xA (λh2=> ?_) (λh2=> ?_)
   ·(try simp only[seval,ht,hs,b3,b4,zn iE,kX Sc]);refine iw (bv ((bZ h y).testBit (ns.getD i 0))) (cx (xu mj ⟨rfl,rfl⟩)) ?_;(try simp only[seval]);refine aD ?_;refine⟨λh3=> ?_,λh3=> ?_⟩
    ·have aM:=DU (by rw[h2];simpa using h3);refine bX ?_;refine ai ?_;simp only[seval,bM];exact hR _ ⟨(i+1,τ,tq),(by show x.pieces.length-(i+1)<x.pieces.length-i;omega),⟨by omega,by rw[tG,aM,SO];exact bH,lJ⟩,da⟩
    ·have aM:=JD (by rw[h2];simpa using h3);have kg:(tq.map iv).length=11:=(by rw[Tn,lJ.len]);have Ix:8+s<tq.length:=(by rw[lJ.len];omega);refine aN ?_;refine ai ?_;simp only[seval,ht,b3,kg];refine⟨by omega,?_⟩;rw[wM Ix,dW];refine eO 6 ?_;simp only[seval,g1,yu];refine iw (wv (u|||2^i)) (cx (uu hu (show i<16 by omega) ⟨rfl,rfl⟩)) ?_;rw[hws];have lU:u|||2^i<65536:=pI hu (wR (by omega));refine aI ((ihd (s+1) (u|||2^i) (o++[i]) (tq.set (8+s) (i:Int)) τ M _ _ (by omega) lU (by simp[ho]) (lJ.next (by omega) x8) Cd (λa ha=>hA a (by rw[rN,aM];exact S4 _ (Tf _ ha))) (λee sZ=> ?_)));have Cg:=sZ.back h4 (by omega) ho;have Am:bD f ((SZ x.pieces.length).flatMap g) σ=match bD f (g i) τ with
       |.go s'=>bD f ((TS (i+1) (x.pieces.length-(i+1))).flatMap g) s'
       |r=>r:=by
      rw[rN,qF,bH];exact qF f (g i) _ τ
     rw[<- aM];have aJ:=hk ee Cg;rw[Am]at aJ;cases hf:bD f (g i) τ with
     |go τ'=>
      simp only[cX];(try simp only[seval]);refine aD ?_;refine aN ?_;refine ai ?_;simp only[seval,bM];exact hR _ ⟨(i+1,τ',ee),(by show x.pieces.length-(i+1)<x.pieces.length-i;omega),⟨by omega,by rw[tG,qF,bH];exact hf,Cg⟩,da⟩
     |stop τ'=>
      rw[hf]at aJ;simp only[cX]at aJ⊢;(try simp only[seval]);refine aD ?_;refine ak ?_;refine aZ ?_;exact bW aJ
     |bad τ'=>
      rw[hf]at aJ;simp only[cX]at aJ⊢;exact bW aJ
   ·(try simp only[seval]);refine aD ?_;have aM:=DU (by rw[show u.testBit i=true by simpa using h2];rfl);refine bX ?_;refine ai ?_;simp only[seval,bM];exact hR _ ⟨(i+1,τ,tq),(by show x.pieces.length-(i+1)<x.pieces.length-i;omega),⟨by omega,by rw[tG,aM,SO];exact bH,lJ⟩,da⟩
  ·have dx:i=x.pieces.length:=(by omega);subst dx;have aJ:=hk tq lJ;rw[bH]at aJ;refine bX ?_;refine ak ?_;refine aZ ?_;exact bW aJ
theorem aiy{H:List aa}{k kp:AV->List aa->Prop}{x:aj}{tc:List Int}{qs:List Nat}(hk:k (.fn (.func 108) [] [.op H.length 0,.op (H.length+1) 0,.op (H.length+2) 0]) (H++[.cells x.l 76,.cells (tc.map iv) 86,.cells (qs.map λn=>wv n) 81])):bh lv SA 93 H [x.av,.agg (tc.map iv),.agg (qs.map λn=>wv n)] k kp:=by
 refine bF (rs:=[.tmp 6]) (nt:=8) Tryz.f93 λhH hA=> ?_;simp only[bk,SV,aj.av];refine ak ?_;refine ai ?_;simp only[seval,T_,UD,Uj,TP];refine aZ ?_;exact bW hk
theorem ahK{x:aj}{h:List Int}{ns qs:List Nat}{N ir it is:Nat}{yv pv:AV}{S:Type}{f:S->List Int->dC S}{Gf:List Int->S->List aa}{I:S->Prop}{A:List Int->Prop}{tc:List Int}{σ:S}{k kp:AV->List aa->Prop}(hx:x.Ok)(h4:h.length=4)(ik:ns.length=x.pieces.length)(hY:∀tc,jU lv SA yv f (Gf tc) N I A pv)(hr:∀tc σ L,(Gf tc σ++L)[ir]?=some (.cells x.l 76))
  (ht:∀tc σ L,(Gf tc σ++L)[it]?=some (.cells (tc.map iv) 86)) (dW:∀tc ee σ L,(Gf tc σ++L).set it (.cells (ee.map iv) 86)=Gf ee σ++L) (hs:∀tc σ L,(Gf tc σ++L)[is]?=some (.cells (qs.map λn=>wv n) 81)) (Ae:∃r,qs=x.aB.map (bZ h)++r) (x6:qs.length=3)
  (au:∀m tc ee σ,(∀z∈Gf tc σ,fb m z)->∀z∈Gf ee σ,fb m z) (mi:∀n,Lt n pv) (ya:tc=dQ h ns) (hI:I σ) (hA:∀a∈(iu x h ns).map (dA h ns),A a) (hk:∀ee,ee.length=11->f_ (Gf ee) pv k kp [] (bD f ((iu x h ns).map (dA h ns)) σ)):bh lv SA 108 (Gf tc σ) [yv,.op ir 0,.op it 0,.op is 0] k kp:=by
 refine bF (rs:=[]) (nt:=9) Tryz.f108 λhH uw=> ?_;simp only[bk,SV];have hN:=(hY tc).len σ;have nH:=hx.eD;have x8:=hx.dc;refine ai ?_;simp only[seval,(hY tc).parts];refine ak ?_;refine ai ?_;simp only[seval,T_,UD,Uj,TP];refine ak ?_;refine aI (?_);rw[hN];have rV:∀n,Lt n (.aL []):=λn=>by simp[jL]
 have dG:=AH (k:=4) (l:=ns) (by omega);have cut:∀(ee:List Int)(σ':S)(L:List aa)(a:AV)(k:AV->List aa->Prop),(∀n,Lt n a)->k a (Gf ee σ')->cF (Gf tc σ).length (Gf ee σ'++L) a k:=λee σ' L a k ha aJ=>by
  refine jy (H':=Gf ee σ') (Wk.refl _) rfl (by rw[(hY ee).len,(hY tc).len];exact SQ _) ?_ (ha _) aJ;intro z hz;have h1:∀z∈Gf ee σ,fb N z:=au N tc ee σ (λw hw=>by have:=hH w hw;rwa [hN]at this);rw[(hY ee).len];exact(hY ee).ok N σ σ' h1 z hz
 refine ahL (x:=x) (h:=h) (ns:=ns) (qs:=qs) hx h4 ik hY hr ht dW hs Ae x6 x.aB.length 0 0 [] tc σ [] _ _ rfl (by decide) rfl ⟨?_,?_,?_⟩ hI hA (λee sZ=> ?_)
 ·rw[ya];simp[dQ,h4,dG]
 ·rw[ya];unfold dQ;rw[List.map_nil,SO,Tw (by simp[h4,dG]),SX (by simp[h4,dG])]
 ·rw[ya];unfold dQ;rw[Vy,TV (by simp[h4,dG]),UJ];have:(h++lz 4 ns).length=8:=by simp[h4,dG]
  rw[this];have:x.aB.length=0\/x.aB.length=1\/x.aB.length=2\/x.aB.length=3:=by omega
  rcases this with e|e|e|e<;>rw[e]<;>rfl
 have hk:=hk ee sZ.len;change cX (Gf ee) pv _ _ _ (bD f ((iu x h ns).map (dA h ns)) σ);cases hf:bD f ((iu x h ns).map (dA h ns)) σ with
 |go s=>
  rw[hf]at hk;simp only[cX,f_]at hk⊢;rw[SO]at hk;(try simp only[seval]);rw[<- hN];exact cut _ _ _ _ _ rV hk
 |stop s=>
  rw[hf]at hk;simp only[cX,f_]at hk⊢;rw[SO]at hk;(try simp only[seval]);rw[<- hN];exact cut _ _ _ _ _ rV hk
 |bad s=>
  rw[hf]at hk;simp only[cX,f_]at hk⊢;rw[SO]at hk;rw[<- hN];exact cut _ _ _ _ _ mi hk
end
section
variable {lv:Bool}{P:SI}{s:AS}{ms:List Nat}{bs:List UY}{nt:Nat}
theorem afx{f:Th}{ps:Array Tmp}{bK body:T4}{fv:AV}{Φ:an->AS->List Nat->Prop}(hf:s.ev f=some fv)
  (h:∀(l fn:Nat)(T:List (Nat×AV))(ag bo:T4),T=s.T->ag=bK->bo=body->i_ lv P fv (s.H++[.obj (.deferred (some [])),.loop l .ready none fn T nt ps ag bo s.H.length]) [.fn (.yield l) [] []]
   (λ_ H'=>∃st pe fB T' jl gz gf fl gg,H'[s.H.length+1]?=some (.loop l st pe fB T' jl gz gf fl gg)/\st≠ .busy/\sF Φ ⟨s.T,H'.set (s.H.length+1) .gone⟩ (s.H.length::ms) pe)
   (λpv H'=>Φ (.panic pv) ⟨s.T,H'⟩ (s.H.length::ms))):mC lv P nt (.rangeFunc f ps bK body) s ms Φ:=afw hf λl fn=>h l fn _ _ _ rfl rfl rfl
theorem Iv{f:Th}{ps:Array Tmp}{bK body:T4}{fv:AV}{Φ:an->AS->List Nat->Prop}(hf:s.ev f=some fv)
  (h:∀(l fn:Nat)(T:List (Nat×AV))(ag bo:T4),T=s.T->ag=bK->bo=body->i_ lv P fv (s.H++[.obj (.deferred (some [])),.loop l .ready none fn T nt ps ag bo s.H.length]) [.fn (.yield l) [] []]
   (λ_ H'=>∃st pe fB T' jl gz gf fl gg,H'[s.H.length+1]?=some (.loop l st pe fB T' jl gz gf fl gg)/\st≠ .busy/\sF Φ ⟨s.T,H'.set (s.H.length+1) .gone⟩ (s.H.length::ms) pe)
   (λpv H'=>Φ (.panic pv) ⟨s.T,H'⟩ (s.H.length::ms))):kA lv P nt bs (.rangeFunc f ps bK body) s ms Φ:=afA hf λl fn=>h l fn _ _ _ rfl rfl rfl
theorem EH{f:Th}{ps:Array Tmp}{bK body:T4}{fv:AV}{Φ:an->AS->Prop}{l0:Nat}(Gl:Nat){Jy MH df:Nat}{NA:Z6}{MV:Option T4}{T0:List (Nat×AV)}{Nf:Array Tmp}{Io IA:T4}(hf:s.ev f=some fv)(h0:s.H[Gl]?=some (.loop l0 NA MV Jy T0 MH Nf Io IA df))
  (h:∀(l fn:Nat)(T:List (Nat×AV))(ag bo:T4),T=s.T->ag=bK->bo=body->i_ lv P fv (s.H++[.loop l .ready none fn T nt ps ag bo df]) [.fn (.yield l) [] []]
   (λ_ H'=>∃st pe fB T' jl gz gf fl gg,H'[s.H.length]?=some (.loop l st pe fB T' jl gz gf fl gg)/\st≠ .busy/\uh Φ ⟨s.T,H'.set s.H.length .gone⟩ pe)
   (λpv H'=>Φ (.panic pv) ⟨s.T,H'⟩)):aP lv P (some l0) nt (.rangeFunc f ps bK body) s Φ:=afk hf h0 λl fn=>h l fn _ _ _ rfl rfl rfl
end
section
variable {P:SI}
theorem G6(Φ:an->AS->List Nat->Prop)(s:AS)(ms:List Nat):sF Φ s ms none=Φ .normal s ms:=by rw[sF]
theorem aos(Φ:an->AS->List Nat->Prop)(s:AS)(ms:List Nat):sF Φ s ms (some .ret)=Φ .ret s ms:=by rw[sF]
theorem G7(Φ:an->AS->Prop)(s:AS):uh Φ s none=Φ .normal s:=by rw[uh]
theorem aou(Φ:an->AS->Prop)(s:AS):uh Φ s (some .ret)=Φ .ret s:=by rw[uh]
theorem aot(Φ:an->AS->Prop)(s:AS)(i:Nat):uh Φ s (some (.exit i))=Φ (.exit i) s:=by rw[uh]
theorem afT(id:Nat)(Φ:an->AS->List Nat->Prop)(s:AS)(ms:List Nat):an.pY id Φ .ret s ms=Φ .ret s ms:=by rw[an.pY];simp
theorem afS(id:Nat)(Φ:an->AS->List Nat->Prop)(pv:AV)(s:AS)(ms:List Nat):an.pY id Φ (.panic pv) s ms=Φ (.panic pv) s ms:=by rw[an.pY];simp
theorem aqN(Φ:an->AS->List Nat->Prop)(pv:AV)(s:AS)(ms:List Nat):an.vu Φ (.panic pv) s ms=Φ (.panic pv) s ms:=by rw[an.vu];simp
theorem aru(K:AS->List Nat->Prop)(Φ:an->AS->List Nat->Prop)(pv:AV)(s:AS)(ms:List Nat):an.si K Φ (.panic pv) s ms=Φ (.panic pv) s ms:=by rw[an.si];simp
theorem ai0(rs:List UO)(n:Nat)(k kp:AV->List aa->Prop)(s:AS)(ms:List Nat):sB P rs n k kp .normal s ms=ao (iN ms s.H) λH'=>ao (gY P ⟨s.T,H'⟩ rs) λl=>cF n H' (iY l) k:=by rw[sB]
theorem ai1(rs:List UO)(n:Nat)(k kp:AV->List aa->Prop)(pv:AV)(s:AS)(ms:List Nat):sB P rs n k kp (.panic pv) s ms=ao (iN ms s.H) λH'=>cF n H' pv kp:=by rw[sB]
attribute [seval] afT afS aqN aru ai0 ai1
end
inductive Lp where
 |ready
 |ret
 |exit (i:Nat)
 |busy
def Lp.st:Lp->Z6
 |.ready=> .ready
 |.ret=> .done
 |.exit _=> .done
 |.busy=> .busy
def Lp.pe:Lp->Option T4
 |.ready=>none
 |.ret=>some .ret
 |.exit i=>some (.exit i)
 |.busy=>none
namespace Tk
def dC.map {S T:Type}(g:S->T):dC S->dC T
 |.go s=> .go (g s)
 |.stop s=> .stop (g s)
 |.bad s=> .bad (g s)
def dC.fin {S:Type}:dC S->Bool×S
 |.go s=>(false,s)
 |.stop s=>(false,s)
 |.bad s=>(true,s)
end Tk
theorem Nl{S:Type}{Gf:S->List aa}{pv:AV}{k kp:AV->List aa->Prop}{M:List aa}{r r':dC S}(h:r.fin=r'.fin)(hk:f_ Gf pv k kp M r):f_ Gf pv k kp M r':=by
 cases r<;>cases r'<;>simp only[dC.fin,U2]at h<;>first
  |(obtain⟨_,rfl⟩:=h;exact hk)
  |(exact absurd h.1 (by decide))
end Go.Gg
namespace Go.Gg.Tk
open Go.Gg
def iZ {S:Type}(f:S->List Int->dC S)(deep:Int)(m:S×Lp)(b:List Int):dC (S×Lp):=match f m.1 b with
 |.go σ=>if deep=0 then .stop (σ,.ret)else if deep=1 then .stop (σ,.exit 3)else .go (σ,.ready)
 |.stop σ=> .stop (σ,.ret)
 |.bad σ=> .bad (σ,.busy)
def kV {S:Type}:dC (S×Lp)->dC (S×Lp)
 |.go m=> .go (m.1,.ready)
 |.stop (σ,.ret)=> .stop (σ,.ret)
 |.stop (σ,_)=> .go (σ,.ready)
 |.bad m=> .bad (m.1,.busy)
def pL {S:Type}(f:S->List Int->dC S)(deep:Int)(L:List Int->List (List Int))(m:S×Lp)(a:List Int):dC (S×Lp):=kV (bD (iZ f deep) (L a) (m.1,.ready))
def r6 (deep:Int)(ll:List (List (List Int))):List (List Int):=if deep=0 then ll.flatten.take 1 else if deep=1 then(ll.map (·.take 1)).flatten else ll.flatten
theorem arH{S:Type}{f:S->List Int->dC S}{σ:S}{l:Lp}:∀(M:List (List Int)),bD (iZ f 0) M (σ,l)=match M with
  |[]=> .go (σ,l)
  |b::_=>match f σ b with
   |.go τ=> .stop (τ,.ret)
   |.stop τ=> .stop (τ,.ret)
   |.bad τ=> .bad (τ,.busy)
 |[]=>rfl
 |b::M=>by
  simp only[bD,iZ];cases f σ b<;>simp
theorem arI{S:Type}{f:S->List Int->dC S}{σ:S}{l:Lp}:∀(M:List (List Int)),bD (iZ f 1) M (σ,l)=match M with
  |[]=> .go (σ,l)
  |b::_=>match f σ b with
   |.go τ=> .stop (τ,.exit 3)
   |.stop τ=> .stop (τ,.ret)
   |.bad τ=> .bad (τ,.busy)
 |[]=>rfl
 |b::M=>by
  simp only[bD,iZ];cases f σ b<;>simp
theorem adi{S:Type}{f:S->List Int->dC S}{deep:Int}(h0:deep≠0)(h1:deep≠1):∀(M:List (List Int))(σ:S),bD (iZ f deep) M (σ,.ready)=match bD f M σ with
  |.go τ=> .go (τ,.ready)
  |.stop τ=> .stop (τ,.ret)
  |.bad τ=> .bad (τ,.busy)
 |[],σ=>rfl
 |b::M,σ=>by
  simp only[bD,iZ,h0,h1,if_false];cases f σ b with
  |go τ=>exact adi h0 h1 M τ
  |stop τ=>rfl
  |bad τ=>rfl
theorem adj{S:Type}{f:S->List Int->dC S}{deep:Int}{L:List Int->List (List Int)}:∀(l:List (List Int))(σ:S),((bD (pL f deep L) l (σ,.ready)).map Prod.fst).fin=(bD f (r6 deep (l.map L)) σ).fin/\(∀m,bD (pL f deep L) l (σ,.ready)=.go m->m.2=.ready)
 |[],σ=>by
  have:r6 deep (([]:List (List Int)).map L)=[]:=by
   unfold r6;by_cases h0:deep=0
   ·rw[if_pos h0];rfl
   ·by_cases h1:deep=1
    ·rw[if_neg h0,if_pos h1];rfl
    ·rw[if_neg h0,if_neg h1];rfl
  rw[this];exact⟨rfl,λm h=>by cases h;rfl⟩
 |a::l,σ=>by
  have ih:=adj (f:=f) (deep:=deep) (L:=L) l;by_cases h0:deep=0
  ·subst h0;have hp:r6 0 ((a::l).map L)=(L a++(l.map L).flatten).take 1:=rfl;have jZ:r6 0 (l.map L)=((l.map L).flatten).take 1:=rfl;rw[hp];simp only[bD,pL,arH];cases hL:L a with
   |nil=>
    simp only[kV,UJ];rw[<- jZ];exact ih σ
   |cons b M=>
    simp only[Vh,VR,aj'];cases hf:f σ b with
    |go τ=>simp only[kV,bD,hf];exact⟨rfl,λm h=>by cases h⟩
    |stop τ=>simp only[kV,bD,hf];exact⟨rfl,λm h=>by cases h⟩
    |bad τ=>simp only[kV,bD,hf];exact⟨rfl,λm h=>by cases h⟩
  by_cases h1:deep=1
  ·subst h1;have hp:r6 1 ((a::l).map L)=(L a).take 1++r6 1 (l.map L):=rfl;rw[hp,qF];simp only[bD,pL,arI];cases hL:L a with
   |nil=>
    simp only[kV,List.take_nil,bD];exact ih σ
   |cons b M=>
    simp only[VR,aj',bD];cases hf:f σ b with
    |go τ=>simp only[kV];exact ih τ
    |stop τ=>simp only[kV];exact⟨rfl,λm h=>by cases h⟩
    |bad τ=>simp only[kV];exact⟨rfl,λm h=>by cases h⟩
  ·have hp:r6 deep ((a::l).map L)=L a++r6 deep (l.map L):=(by unfold r6;rw[if_neg h0,if_neg h1,if_neg h0,if_neg h1];rfl);rw[hp,qF];simp only[bD,pL];rw[adi h0 h1];cases hf:bD f (L a) σ with
   |go τ=>simp only[kV];exact ih τ
   |stop τ=>simp only[kV];exact⟨rfl,λm h=>by cases h⟩
   |bad τ=>simp only[kV];exact⟨rfl,λm h=>by cases h⟩
theorem No{S α:Type}{F:S->α->dC S}:∀{l:List α}{s s':S},bD F l s=.stop s'->∃t a,F t a=.stop s'
 |[],s,s',h=>by cases h
 |a::l,s,s',h=>by
  simp only[bD]at h;cases hf:F s a with
  |go t=>rw[hf]at h;exact No h
  |stop t=>rw[hf]at h;cases h;exact⟨s,a,hf⟩
  |bad t=>rw[hf]at h;cases h
theorem arG{S:Type}{f:S->List Int->dC S}{deep:Int}{L:List Int->List (List Int)}{m m':S×Lp}{a:List Int}(h:pL f deep L m a=.stop m'):m'.2=.ret:=by
 unfold pL at h;generalize bD (iZ f deep) (L a) (m.1,.ready)=r at h;cases r with
 |go q=>cases h
 |bad q=>cases h
 |stop q=>
  obtain⟨s,lp⟩:=q;cases lp<;>cases h;rfl
theorem arK{S:Type}{f:S->List Int->dC S}{deep:Int}{m m':S×Lp}{a:List Int}(h:iZ f deep m a=.stop m'):m'.2=.ret\/m'.2=.exit 3:=by
 unfold iZ at h;cases hf:f m.1 a with
 |go q=>
  rw[hf]at h;dsimp only at h;by_cases h0:deep=0
  ·rw[if_pos h0]at h;cases h;exact .inl rfl
  ·rw[if_neg h0]at h;by_cases h1:deep=1
   ·rw[if_pos h1]at h;cases h;exact .inr rfl
   ·rw[if_neg h1]at h;cases h
 |stop q=>rw[hf]at h;cases h;exact .inl rfl
 |bad q=>rw[hf]at h;cases h
theorem arJ{S:Type}{f:S->List Int->dC S}{deep:Int}{m m':S×Lp}{a:List Int}(h:iZ f deep m a=.go m'):m'.2=.ready:=by
 unfold iZ at h;cases hf:f m.1 a with
 |go q=>
  rw[hf]at h;dsimp only at h;by_cases h0:deep=0
  ·rw[if_pos h0]at h;cases h
  ·rw[if_neg h0]at h;by_cases h1:deep=1
   ·rw[if_pos h1]at h;cases h
   ·rw[if_neg h1]at h;cases h;rfl
 |stop q=>rw[hf]at h;cases h
 |bad q=>rw[hf]at h;cases h
theorem ab1{S α:Type}{F:S->α->dC S}{J:S->Prop}{A:α->Prop}(hi:∀s a s',J s->A a->F s a=.go s'->J s'):∀{l:List α}{s s':S},(∀a∈l,A a)->J s->bD F l s=.stop s'->∃t a,J t/\A a/\F t a=.stop s'
 |[],s,s',_,_,h=>by cases h
 |a::l,s,s',ha,hs,h=>by
  simp only[bD]at h;cases hf:F s a with
  |go t=>rw[hf]at h;exact ab1 hi (λb hb=>ha b (by simp[hb])) (hi s a t hs (ha a (by simp)) hf) h
  |stop t=>rw[hf]at h;cases h;exact⟨s,a,hs,ha a (by simp),hf⟩
  |bad t=>rw[hf]at h;cases h
theorem D1{S:Type}{f:S->List Int->dC S}{deep:Int}{I:S->Prop}{A:List Int->Prop}(hi:∀s a s',I s->A a->f s a=.go s'->I s'){m m':S×Lp}{a:List Int}(hm:I m.1)(ha:A a)(h:iZ f deep m a=.go m'\/iZ f deep m a=.stop m'/\m'.2≠ .ret):I m'.1:=by
 unfold iZ at h;cases hf:f m.1 a with
 |go q=>
  have hq:=hi _ _ _ hm ha hf;rw[hf]at h;dsimp only at h;by_cases h0:deep=0
  ·rw[if_pos h0]at h;rcases h with h|⟨h,h2⟩
   ·cases h
   ·cases h;exact hq
  ·rw[if_neg h0]at h;by_cases h1:deep=1
   ·rw[if_pos h1]at h;rcases h with h|⟨h,h2⟩
    ·cases h
    ·cases h;exact hq
   ·rw[if_neg h1]at h;rcases h with h|⟨h,h2⟩
    ·cases h;exact hq
    ·cases h
 |stop q=>
  rw[hf]at h;rcases h with h|⟨h,h2⟩
  ·cases h
  ·cases h;exact absurd rfl h2
 |bad q=>
  rw[hf]at h;rcases h with h|⟨h,h2⟩
  ·cases h
  ·cases h
theorem aeF{S:Type}{f:S->List Int->dC S}{deep:Int}{I:S->Prop}{A:List Int->Prop}(hi:∀s a s',I s->A a->f s a=.go s'->I s'){l:List (List Int)}{σ:S}{m:S×Lp}(hl:∀a∈l,A a)(hs:I σ)(h:kV (bD (iZ f deep) l (σ,.ready))=.go m):I m.1/\m.2=.ready:=by
 cases hr:bD (iZ f deep) l (σ,.ready)with
 |go q=>
  rw[hr]at h;cases h;exact⟨AM (f:=iZ f deep) (s':=q) (I:=λm:S×Lp=>I m.1) (A:=A) (λs a s' h1 h2 h3=>D1 hi h1 h2 (.inl h3)) l _ hl hs hr,rfl⟩
 |stop q=>
  obtain⟨t,a,h1,h2,h3⟩:=ab1 (J:=λm:S×Lp=>I m.1) (A:=A) (λs a s' h1 h2 h3=>D1 hi h1 h2 (.inl h3)) hl hs hr;rw[hr]at h;obtain⟨q1,q2⟩:=q;cases q2 with
  |ret=>cases h
  |ready=>cases h;exact⟨D1 (m':=(q1,.ready)) hi h1 h2 (.inr ⟨h3,by simp⟩),rfl⟩
  |exit i=>cases h;exact⟨D1 (m':=(q1,.exit i)) hi h1 h2 (.inr ⟨h3,by simp⟩),rfl⟩
  |busy=>cases h;exact⟨D1 (m':=(q1,.busy)) hi h1 h2 (.inr ⟨h3,by simp⟩),rfl⟩
 |bad q=>rw[hr]at h;cases h
end Go.Gg.Tk
namespace Go.Gg
open Go.Conc Go.Proofs Go.Gg.Tk
namespace Tk
def nf (l:List Nat)(i:Nat):List Nat:=l.take i++TH (3-i) 0
theorem afM{l:List Nat}{i q:Nat}(h:l[i]?=some q)(hl:l.length<=3):(nf l i).set i q=nf l (i+1):=by
 have hi:=eR h;unfold nf;rw[T9 _ _ (by simp;omega),show i-(l.take i).length=0 by simp;omega,show 3-i=(3-(i+1))+1 by omega,Ww,TZ,WA,h];simp
theorem O0{l:List Nat}{i:Nat}(hi:i<=l.length)(hl:l.length<=3):(nf l i).length=3:=by simp[nf];omega
theorem afL{l:List Nat}:nf l l.length=l++TH (3-l.length) 0:=by simp[nf]
theorem abk:∀{qs:List Nat}{u:Nat}{t ns:List Nat},ns∈kP qs u t->ns.length=t.length+qs.length
 |[],u,t,ns,h=>by
  simp only[kP,S8]at h;subst h;rfl
 |q::qs,u,t,ns,h=>by
  simp only[kP,S5]at h;obtain⟨n,_,h⟩:=h;split at h
  ·cases h
  ·have:=abk h;simp at this⊢;omega
theorem MI{x:aj}{h:List Int}{ns:List Nat}(hm:ns∈fY x h):ns.length=x.pieces.length:=by
 have:=abk hm;simpa using this
def GL (k:Nat)(a:List Int):List Nat:=((a.drop 4).take k).map X5
theorem anz{h:List Int}{ns:List Nat}(h4:h.length=4):GL ns.length (dQ h ns)=ns:=by
 unfold GL dQ lz;rw[SC,Vy,TV (by omega),h4,UJ,Vf,Xy,SC,Tw (by simp),SX (by simp),XV]
 conv=>rhs;rw[<- List.map_id ns]
 exact VC λn _=>by simp
def u6 (x:aj)(h:List Int)(a:List Int):List (List Int):=(iu x h (GL x.pieces.length a)).map (dA h (GL x.pieces.length a))
theorem LZ{x:aj}{h:List Int}{ns:List Nat}(h4:h.length=4)(hn:ns.length=x.pieces.length):u6 x h (dQ h ns)=(iu x h ns).map (dA h ns):=by
 unfold u6;rw[<- hn,anz h4]
theorem arP{x:aj}{h:List Int}{deep:Int}(h4:h.length=4):iI x deep h=r6 deep (((fY x h).map (dQ h)).map (u6 x h)):=by
 rw[XV];have:(fY x h).map (u6 x h∘dQ h)=(fY x h).map λns=>(iu x h ns).map λos=>dA h ns os:=VC λns hm=>LZ h4 (MI hm);rw[this];rfl
end Tk
section
variable {lv:Bool}
theorem Ji{H:List aa}{k kp:AV->List aa->Prop}{x:aj}{h:List Int}{deep:Int}(hk:k (.fn (.func 91) [] [.op H.length 0,.op (H.length+1) 0,.op (H.length+2) 0]) (H++[.cells x.l 76,.cells (h.map iv) 83,.cells [iv deep] 3])):bh lv SA 66 H [x.av,.agg (h.map iv),iv deep] k kp:=by
 refine bF (rs:=[.tmp 6]) (nt:=8) Tryz.f66 λhH hA=> ?_;simp only[bk,SV,aj.av];refine ak ?_;refine ai ?_;simp only[seval,T_,UD,Uj,TP];refine aZ ?_;exact bW hk
theorem Jm{x:aj}{h:List Int}{deep:Int}{N ir ih id:Nat}{yv pv:AV}{S:Type}{f:S->List Int->dC S}{Gf:S->List aa}{I:S->Prop}{A:List Int->Prop}{σ:S}{k kp:AV->List aa->Prop}(hx:x.Ok)(hh:mD h)(hY:jU lv SA yv f Gf N I A pv)(hr:∀σ L,(Gf σ++L)[ir]?=some (.cells x.l 76))(hi:∀σ L,(Gf σ++L)[ih]?=some (.cells (h.map iv) 83))(hd:∀σ L,(Gf σ++L)[id]?=some (.cells [iv deep] 3))
  (mi:∀n,Lt n pv) (hI:I σ) (p_:∀a,A a->a.length=11) (hA:∀ns∈fY x h,∀a∈(iu x h ns).map (dA h ns),A a) (hk:f_ Gf pv k kp [] (bD f (iI x deep h) σ)):bh lv SA 91 (Gf σ) [yv,.op ir 0,.op ih 0,.op id 0] k kp:=by
 refine Ql (rs:=[]) (nt:=44) F.f91 rfl rfl rfl (by simp) λhH uw=> ?_;simp only[bk,SV];have hN:=hY.len σ;have x8:=hx.dc;have bO:x.l=[iv x.first,iv x.hours,iv x.am,dS x.seen,aW x.pieces,aW x.aB]:=rfl;have nu:(h.map iv).length=4:=by rw[Tn,hh.len]
 refine nd ?_;refine ai ?_;simp only[seval,hY.parts];refine afy ?_;refine nd ?_;refine ak ?_;refine Iu ?_;refine nd ?_;refine ai ?_;simp only[seval,hr,bO,aW];refine It ?_;refine cq ?_;refine gD x.aB.length (λi:Nat=>[(14,iv i)]) (λi=>Gf σ++[.cells [yv] 132,.cells ((nf (x.aB.map (bZ h)) i).map λn=>wv n) 81]) (λi=>True) (λ_ _=>rfl) (by simp only[seval];simp[bu,Wk.refl]) rfl (λ_ _ _=>by simp) trivial (λbQ cP i cK _ R hR=> ?_);refine ak ?_;refine aD ?_;refine⟨λhc=> ?_,λhc=> ?_⟩
 ·have bB:i<x.aB.length:=by omega
  obtain⟨y,hy⟩:=b9 bB;have uY:(x.aB.map (bZ h))[i]?=some (bZ h y):=by rw[To,hy];rfl
  have b3:(0<=(i:Int)/\(i:Int)<3)=True:=by simp;omega
  have bM:SD.wrap ((i:Int)+1)=((i+1:Nat):Int):=by rw[bA _ (by omega)];rfl
  have cO:(nf (x.aB.map (bZ h)) i).length=3:=O0 (by simp;omega) (by simpa using x8);have v_:((nf (x.aB.map (bZ h)) i).map λn=>wv n).length=3:=by rw[Tn,cO]
  refine aN ?_;refine ai ?_;simp only[seval,DO hy,jc bB];refine ai ?_;simp only[seval,hi,nu];rw[SX (i:=4) (l:=h.map iv) (by rw[nu];exact SQ _)];refine aI ((EZ (h:=h) (y:=y) hh ?_));(try simp only[seval,b3,v_]);refine⟨by omega,?_⟩;rw[Nu (g:=λn=>wv n) (show i<(nf (x.aB.map (bZ h)) i).length by omega),afM uY (by simpa using x8)];refine ai ?_;simp only[seval,bM];exact hR _ ⟨bB,trivial,AL (pE rfl rfl) (by simp only[seval];simp[bu,Wk.refl]) (Sf (L:=[_]) bQ (abq _ _)) (by simp[eK])⟩
 have:i=x.aB.length:=by omega
 subst this;clear hc cK;refine bX ?_;have Ae:∃r,nf (x.aB.map (bZ h)) x.aB.length=x.aB.map (bZ h)++r:=⟨_,by
  have:=afL (l:=x.aB.map (bZ h));simpa using this⟩
 have x6:(nf (x.aB.map (bZ h)) x.aB.length).length=3:=O0 (by simp) (by simpa using x8);have Lh:((nf (x.aB.map (bZ h)) x.aB.length).map λn=>wv n).length=3:=by rw[Tn,x6]
 generalize nf (x.aB.map (bZ h)) x.aB.length=qs at Ae x6 Lh;refine nd ?_;(repeat apply iA);refine OL ?_;simp only[seval];refine nd ?_;refine ai ?_;simp only[seval,hr,bO,hi,nu];rw[SX (i:=4) (l:=h.map iv) (by rw[nu];exact SQ _)];refine aI ((aix (x:=x) (h:=h) ?_));(try simp only[seval]);refine afv ?_;refine afx (by rfl) λl fn T ag bo hT xH qf=> ?_;(try simp only[seval]);rw[hN]at hT⊢;have h4:=hh.len;have ajD:jU lv SA (.fn (.yield l) [] []) (pL f deep (u6 x h)) (λm:S×Lp=>Gf m.1++[.cells [yv] 132,.cells (qs.map λn=>wv n) 81,.cells x.l 76,.cells (h.map iv) 83,.obj (.deferred (some [])),.loop l m.2.st m.2.pe fn T 44 #[28] ag bo (N+4)]) (N+6) (λm=>I m.1/\m.2=.ready) (λa=>∃ns∈fY x h,a=dQ h ns) pv:=by
  have g3:∀(σ:S)(L:List aa),(Gf σ++L)[N+1]?=L[1]?:=λσ L=>hY.get σ L 1;have g5:∀(σ:S)(L:List aa),(Gf σ++L)[N+5]?=L[5]?:=λσ L=>hY.get σ L 5;have s5:∀(σ:S)(L:List aa) y,(Gf σ++L).set (N+5) y=Gf σ++L.set 5 y:=λσ L y=>hY.set σ L 5 y;refine⟨λm a M k kp hm ha dz=> ?_,λm a m' hm ha he=> ?_,λm=>by simp[hY.len],λq m m' hz z eZ=> ?_,rfl,rfl,rfl⟩
  ·obtain⟨σ,lp⟩:=m;obtain⟨JN,gV⟩:=hm;replace JN:I σ:=JN;replace gV:lp=.ready:=gV;subst gV;obtain⟨ns,ik,rfl⟩:=ha;have jI:=MI ik;have qz:(dQ h ns).length=11:=(by simp[dQ,h4,AH (k:=4) (l:=ns) (by have:=hx.eD;omega)]);have Al:((dQ h ns).map iv).length=11:=(by rw[Tn,qz]);obtain⟨Lo,lc⟩:∃Lo,Lo=aa.loop l .busy none fn T 44 #[28] ag bo (N+4):=⟨_,rfl⟩;obtain⟨P1,dt⟩:∃P1:S->List aa,∀σ,P1 σ=Gf σ++([.cells [yv] 132,.cells (qs.map λn=>wv n) 81,.cells x.l 76,.cells (h.map iv) 83,.obj (.deferred (some [])),Lo]++M):=⟨_,λ_=>rfl⟩;have ek:∀σ,(P1 σ).length=N+6+M.length:=λσ=>(by rw[dt];simp[hY.len];omega);have pg:∀(σ:S)(L:List aa)(i:Nat),i<6->(P1 σ++L)[N+i]?=[aa.cells [yv] 132,.cells (qs.map λn=>wv n) 81,.cells x.l 76,.cells (h.map iv) 83,.obj (.deferred (some [])),Lo][i]?:=λσ L i KF=>by
    rw[dt,SC,hY.get,SC,SW (by simpa using KF)]
   have pr:∀(σ:S)(L:List aa),(P1 σ++L)[ir]?=some (.cells x.l 76):=λσ L=>(by rw[dt,SC];exact hr σ _);have pd:∀(σ:S)(L:List aa),(P1 σ++L)[id]?=some (.cells [iv deep] 3):=λσ L=>(by rw[dt,SC];exact hd σ _);have pb:∀(σ:S)(L:List aa)(i:Nat),(P1 σ++L)[N+6+M.length+i]?=L[i]?:=λσ L i=>(by rw[<- ek σ,aX]);have wJ:∀(σ:S)(L:List aa),(P1 σ++L)[N+6+M.length]?=L[0]?:=λσ L=>pb σ L 0;have pg1:∀(σ:S)(L:List aa),(P1 σ++L)[N+1]?=some (.cells (qs.map λn=>wv n) 81):=λσ L=>pg σ L 1 (by omega);have pg0:∀(σ:S)(L:List aa),(P1 σ++L)[N]?=some (.cells [yv] 132):=λσ L=>pg σ L 0 (by omega);have Ro:∀(τ:S)(lp:Lp),bI (Gf σ++(([aa.cells [yv] 132,.cells (qs.map λn=>wv n) 81,.cells x.l 76,.cells (h.map iv) 83,.obj (.deferred (some [])),.loop l .ready none fn T 44 #[28] ag bo (N+4)]:List aa)++M))->bI (Gf τ++(([aa.cells [yv] 132,.cells (qs.map λn=>wv n) 81,.cells x.l 76,.cells (h.map iv) 83,.obj (.deferred (some [])),.loop l lp.st lp.pe fn T 44 #[28] ag bo (N+4)]:List aa)++M)):=λτ lp ii z hz=>by
    have hlen:(Gf τ++(([aa.cells [yv] 132,.cells (qs.map λn=>wv n) 81,.cells x.l 76,.cells (h.map iv) 83,.obj (.deferred (some [])),.loop l lp.st lp.pe fn T 44 #[28] ag bo (N+4)]:List aa)++M)).length=(Gf σ++(([aa.cells [yv] 132,.cells (qs.map λn=>wv n) 81,.cells x.l 76,.cells (h.map iv) 83,.obj (.deferred (some [])),.loop l .ready none fn T 44 #[28] ag bo (N+4)]:List aa)++M)).length:=(by simp[hY.len]);have hl:=ii (.loop l .ready none fn T 44 #[28] ag bo (N+4)) (by simp);rw[hlen];rcases SR.1 hz with h'|h'
    ·exact hY.ok _ σ τ (λw hw=>ii w (Tf _ hw)) z h'
    ·rcases SR.1 h' with h'|h'
     ·simp only[SK,S0,or_false]at h';rcases h' with rfl|rfl|rfl|rfl|rfl|rfl
      ·exact ii _ (by simp)
      ·exact ii _ (by simp)
      ·exact ii _ (by simp)
      ·exact ii _ (by simp)
      ·exact ii _ (by simp)
      ·exact hl
     ·exact ii z (S4 _ (S4 _ h'))
   have Jo:bI (Gf σ++(([aa.cells [yv] 132,.cells (qs.map λn=>wv n) 81,.cells x.l 76,.cells (h.map iv) 83,.obj (.deferred (some [])),.loop l .ready none fn T 44 #[28] ag bo (N+4)]:List aa)++M))->∀(τ:S)(lp:Lp)(b':Bool)(TT:List (Nat×AV))(L:List aa),k (bv b') ((Gf τ++[.cells [yv] 132,.cells (qs.map λn=>wv n) 81,.cells x.l 76,.cells (h.map iv) 83,.obj (.deferred (some [])),.loop l lp.st lp.pe fn T 44 #[28] ag bo (N+4)])++M)->oT (N+5) (N+6+M.length) k lp.st lp.pe b' ⟨TT,P1 τ++L⟩:=λii τ lp b' TT L dz=>by
    refine⟨l,.busy,none,fn,T,44,#[28],ag,bo,N+4,by show (P1 τ++L)[_]?=_;rw[pg τ _ 5 (by omega),lc];rfl,?_⟩;show cF (N+6+M.length) ((P1 τ++L).set _ _) _ k;rw[dt,SC,s5];rw[SC]at dz;exact jy (G:=L) (Wk.refl _) (by simp) (by simp[hY.len];omega) (Ro τ lp ii) (.val _) dz
   have aiN:bI (Gf σ++(([aa.cells [yv] 132,.cells (qs.map λn=>wv n) 81,.cells x.l 76,.cells (h.map iv) 83,.obj (.deferred (some [])),.loop l .ready none fn T 44 #[28] ag bo (N+4)]:List aa)++M))->∀(τ:S)(L:List aa),kp pv ((Gf τ++[.cells [yv] 132,.cells (qs.map λn=>wv n) 81,.cells x.l 76,.cells (h.map iv) 83,.obj (.deferred (some [])),.loop l Lp.busy.st Lp.busy.pe fn T 44 #[28] ag bo (N+4)])++M)->cF (N+6+M.length) (P1 τ++L) pv kp:=λii τ L dz=>by
    rw[SC]at dz;rw[dt,lc];exact jy (G:=L) (Wk.refl _) rfl (by simp[hY.len];omega) (Ro τ .busy ii) (mi _) dz
   subst hT xH qf;rw[SC];refine vR (id:=N+5) (by rw[g5];rfl) rfl (by kernel_rfl) λoi JI=> ?_;simp only[sq];have we:T7 11 [iv 0,iv 0,iv 0,iv 0,iv 0,iv 0,iv 0,iv 0,iv 0,iv 0,iv 0]=[]:=rfl;refine ai ?_;simp only[seval,qz,we];unfold ui;refine⟨none,fn,_,44,#[28],_,_,_,by rw[g5];rfl,?_⟩;dsimp only;rw[s5];simp only[UF,TZ];rw[<- lc];have xC:(Gf σ).length+(M.length+1+1+1+1+1+1)=N+6+M.length:=(by rw[hY.len];omega);rw[xC];have xQ:∀z:aa,Gf σ++aa.cells [yv] 132::aa.cells (U9 (λn=>wv n) qs) 81::aa.cells x.l 76::aa.cells (U9 iv h) 83::aa.obj (aud (some []))::Lo::(M++[z])=P1 σ++[z]:=λz=>(by rw[dt];simp);rw[xQ];refine ai ?_;simp only[seval,pr,bO,wJ,pg1,Al,qz,Lh,x6];rw[SX (i:=11) (l:=(dQ h ns).map iv) (by rw[Al];exact SQ _),SX (i:=3) (l:=qs.map λn=>wv n) (by rw[Lh];exact SQ _)];refine aI ((aiy (x:=x) (tc:=dQ h ns) (qs:=qs) ?_));(try simp only[seval]);refine cq ?_;have qn:∀(σ:S)(a b c d:aa),(P1 σ++[a,b,c,d]).length=N+6+M.length+4:=λσ a b c d=>(by simp[ek]);refine EH (N+5) (by rfl) (by show (P1 σ++_)[N+5]?=_;rw[pg σ _ 5 (by omega),lc];rfl) λl2 eQ T2 gC gE oo xI xK=> ?_;simp only[seval];rw[ek]at oo⊢;have Az:∀(σ τ:S)(L L':List aa),L'.length=L.length->(∀q,(∀z∈L,fb q z)->∀z∈L',fb q z)->bI (P1 σ++L)->bI (P1 τ++L'):=λσ τ L L' hl hL hH z hz=>by
    have hlen:(P1 τ++L').length=(P1 σ++L).length:=(by simp[ek,hl]);rw[hlen];rcases SR.1 hz with h'|h'
    ·rw[dt]at h';rcases SR.1 h' with h'|h'
     ·exact hY.ok _ σ τ (λw hw=>hH w (Tf _ (by rw[dt];exact Tf _ hw))) z h'
     ·exact hH z (Tf _ (by rw[dt];exact S4 _ h'))
    ·exact hL _ (λw hw=>hH w (S4 _ hw)) z h'
   have xG:∀tc:List Int,jU lv SA (.fn (.yield l2) [] []) (iZ f deep) (λm:S×Lp=>P1 m.1++[.cells ((dQ h ns).map iv) 86,.cells x.l 76,.cells (tc.map iv) 86,.cells (qs.map λn=>wv n) 81,.loop l2 m.2.st m.2.pe eQ T2 44 #[33] gC gE (N+4)]) (N+6+M.length+5) (λm=>I m.1/\m.2=.ready) A pv:=λtc=>by
    refine⟨λm b M2 k2 yj hm hb ln=> ?_,λm b m' hm hb he=> ?_,λm=>by simp[ek],λq m m' hz z eZ=> ?_,rfl,rfl,rfl⟩
    ·obtain⟨σ',lp⟩:=m;obtain⟨JO,gV⟩:=hm;replace JO:I σ':=JO;replace gV:lp=.ready:=gV;subst gV;have cO:b.length=11:=p_ b hb;have v_:(b.map iv).length=11:=(by rw[Tn,cO]);obtain⟨pP,sY⟩:∃Lo,Lo=aa.loop l2 .busy none eQ T2 44 #[33] gC gE (N+4):=⟨_,rfl⟩;obtain⟨Q1,gh⟩:∃Q1:S->List aa,∀σ,Q1 σ=P1 σ++([.cells ((dQ h ns).map iv) 86,.cells x.l 76,.cells (tc.map iv) 86,.cells (qs.map λn=>wv n) 81,pP]++M2):=⟨_,λ_=>rfl⟩;obtain⟨C,hC⟩:∃C,C=N+6+M.length+5+M2.length:=⟨_,rfl⟩;have JV:∀σ,(Q1 σ).length=C:=λσ=>(by rw[gh,hC];simp[ek];omega);have l5:∀(σ:S)(L:List aa),(P1 σ++L)[N+6+M.length+4]?=L[4]?:=λσ L=>pb σ L 4;have pK:∀(σ:S)(L:List aa)(y:aa),(P1 σ++L).set (N+6+M.length+4) y=P1 σ++L.set 4 y:=λσ L y=>(by rw[<- ek σ,dU]);have qN:∀(σ:S)(L:List aa),(Q1 σ++L)[N]?=some (.cells [yv] 132):=λσ L=>(by rw[gh,SC];exact pg0 σ _);have qd:∀(σ:S)(L:List aa),(Q1 σ++L)[id]?=some (.cells [iv deep] 3):=λσ L=>(by rw[gh,SC];exact pd σ _);have q4:∀(σ:S)(L:List aa),(Q1 σ++L)[N+6+M.length+4]?=some pP:=λσ L=>(by rw[gh,SC,l5];rfl);have qc:∀(σ:S)(L:List aa),(Q1 σ++L)[C]?=L[0]?:=λσ L=>(by rw[<- JV σ];exact aX _ L 0);have Ni:∀(σ:S)(L:List aa)(y:aa),(Q1 σ++L).set (N+6+M.length+4) y=(P1 σ++([.cells ((dQ h ns).map iv) 86,.cells x.l 76,.cells (tc.map iv) 86,.cells (qs.map λn=>wv n) 81,y]++M2))++L:=λσ L y=>(by rw[gh,SC,pK];simp);obtain⟨Mz,Fq⟩:∃Mz:List aa,∀σ,Q1 σ++[.cells (b.map iv) 86]=Gf σ++Mz:=⟨_,λσ=>by rw[gh,dt,SC,SC]⟩;have fE:∀(τ:S)(lp:Lp),bI (P1 σ'++([.cells ((dQ h ns).map iv) 86,.cells x.l 76,.cells (tc.map iv) 86,.cells (qs.map λn=>wv n) 81,.loop l2 .ready none eQ T2 44 #[33] gC gE (N+4)]++M2))->bI (P1 τ++([.cells ((dQ h ns).map iv) 86,.cells x.l 76,.cells (tc.map iv) 86,.cells (qs.map λn=>wv n) 81,.loop l2 lp.st lp.pe eQ T2 44 #[33] gC gE (N+4)]++M2)):=λτ lp ii=>Az σ' τ _ _ (by simp) (λq hz z eZ=>by
      have hl:=hz (.loop l2 .ready none eQ T2 44 #[33] gC gE (N+4)) (by simp);rcases SR.1 eZ with h'|h'
      ·simp only[SK,S0,or_false]at h';rcases h' with rfl|rfl|rfl|rfl|rfl
       ·exact hz _ (by simp)
       ·exact hz _ (by simp)
       ·exact hz _ (by simp)
       ·exact hz _ (by simp)
       ·exact hl
      ·exact hz _ (S4 _ h')) ii
     have gr:cX (λm:S×Lp=>P1 m.1++[.cells ((dQ h ns).map iv) 86,.cells x.l 76,.cells (tc.map iv) 86,.cells (qs.map λn=>wv n) 81,.loop l2 m.2.st m.2.pe eQ T2 44 #[33] gC gE (N+4)]) pv k2 yj M2 (iZ f deep (σ',.ready) b):=ln;have Ks:∀z:aa,P1 σ'++(aa.cells (U9 iv (dQ h ns)) 86::aa.cells x.l 76::aa.cells (U9 iv tc) 86::aa.cells (U9 (λn=>wv n) qs) 81::pP::(M2++[z]))=Q1 σ'++[z]:=λz=>(by rw[gh];simp);have Fb:bI (P1 σ'++([.cells ((dQ h ns).map iv) 86,.cells x.l 76,.cells (tc.map iv) 86,.cells (qs.map λn=>wv n) 81,.loop l2 .ready none eQ T2 44 #[33] gC gE (N+4)]++M2))->∀(τ:S)(lp:Lp)(b':Bool)(TT:List (Nat×AV)),k2 (bv b') ((P1 τ++[.cells ((dQ h ns).map iv) 86,.cells x.l 76,.cells (tc.map iv) 86,.cells (qs.map λn=>wv n) 81,.loop l2 lp.st lp.pe eQ T2 44 #[33] gC gE (N+4)])++M2)->oT (N+6+M.length+4) C k2 lp.st lp.pe b' ⟨TT,Gf τ++Mz⟩:=λii τ lp b' TT dz=>by
      refine⟨l2,.busy,none,eQ,T2,44,#[33],gC,gE,N+4,by show (Gf τ++Mz)[_]?=_;rw[<- Fq,q4,sY],?_⟩;show cF C ((Gf τ++Mz).set _ _) _ k2;rw[<- Fq,Ni];rw[SC]at dz;exact jy (G:=[.cells (b.map iv) 86]) (Wk.refl _) rfl (by rw[hC];simp[ek];omega) (fE τ lp ii) (.val _) dz
     have aiM:bI (P1 σ'++([.cells ((dQ h ns).map iv) 86,.cells x.l 76,.cells (tc.map iv) 86,.cells (qs.map λn=>wv n) 81,.loop l2 .ready none eQ T2 44 #[33] gC gE (N+4)]++M2))->∀τ:S,yj pv ((P1 τ++[.cells ((dQ h ns).map iv) 86,.cells x.l 76,.cells (tc.map iv) 86,.cells (qs.map λn=>wv n) 81,.loop l2 Lp.busy.st Lp.busy.pe eQ T2 44 #[33] gC gE (N+4)])++M2)->cF C (Gf τ++Mz) pv yj:=λii τ dz=>by
      rw[<- Fq,gh,sY];rw[SC]at dz;exact jy (G:=[.cells (b.map iv) 86]) (Wk.refl _) rfl (by rw[hC];simp[ek];omega) (fE τ .busy ii) (mi _) dz
     subst oo xI xK;rw[SC];refine vR (id:=N+6+M.length+4) (by rw[l5];rfl) rfl (by kernel_rfl) λrq JJ=> ?_;simp only[sq];refine ai ?_;simp only[seval,cO,we];unfold ui;refine⟨none,eQ,_,44,#[33],_,_,_,by rw[l5];rfl,?_⟩;dsimp only;rw[pK];simp only[UF,TZ];rw[<- sY];have Ca:(P1 σ').length+(M2.length+1+1+1+1+1)=C:=(by rw[ek,hC];omega);rw[Ca,Ks];refine ai ?_;simp only[seval,qN,qc,cO,v_];rw[SX (i:=11) (l:=b.map iv) (by rw[v_];exact SQ _),Fq];refine xh (hY.call σ' b Mz _ _ JO hb ?_);unfold iZ at gr;rw[show f (σ',Lp.ready).1 b=f σ' b from rfl]at gr;cases hf:f σ' b with
     |go τ=>
      rw[hf]at gr;dsimp only at gr;simp only[cX];(try simp only[seval,hd]);refine aD ?_;refine⟨λh0=> ?_,λh0=> ?_⟩
      ·replace h0:deep=0:=(by simpa using h0);rw[if_pos h0]at gr;simp only[cX]at gr;refine aZ ?_;exact Fb rq τ .ret false _ gr
      ·replace h0:¬deep=0:=(by simpa using h0);rw[if_neg h0]at gr;refine aN ?_;refine ai ?_;simp only[seval,hd];refine aD ?_;refine⟨λh1=> ?_,λh1=> ?_⟩
       ·replace h1:deep=1:=(by simpa using h1);rw[if_pos h1]at gr;simp only[cX]at gr;refine bX ?_;exact Fb rq τ (.exit 3) false _ gr
       ·replace h1:¬deep=1:=(by simpa using h1);rw[if_neg h1]at gr;simp only[cX]at gr;refine aN ?_;exact Fb rq τ .ready true _ gr
     |stop τ=>
      rw[hf]at gr;dsimp only at gr;simp only[cX]at gr⊢;(try simp only[seval]);refine aD ?_;refine aZ ?_;exact Fb rq τ .ret false _ gr
     |bad τ=>
      rw[hf]at gr;dsimp only at gr;simp only[cX]at gr⊢;exact aiM rq τ gr
    ·obtain⟨σ',lp⟩:=m;obtain⟨τ,Di⟩:=m';unfold iZ at he;have hi:=(hY.inv σ' b τ hm.1 hb);cases hf:f σ' b with
     |go τ'=>
      rw[show f (σ',lp).1 b=f σ' b from rfl,hf]at he;dsimp only at he;by_cases h0:deep=0
      ·rw[if_pos h0]at he;cases he
      ·rw[if_neg h0]at he;by_cases h1:deep=1
       ·rw[if_pos h1]at he;cases he
       ·rw[if_neg h1]at he;cases he;exact⟨hi hf,rfl⟩
     |stop τ'=>rw[show f (σ',lp).1 b=f σ' b from rfl,hf]at he;cases he
     |bad τ'=>rw[show f (σ',lp).1 b=f σ' b from rfl,hf]at he;cases he
    ·rcases SR.1 eZ with h'|h'
     ·rw[dt]at h';rcases SR.1 h' with h'|h'
      ·exact hY.ok q m.1 m'.1 (λw hw=>hz w (Tf _ (by rw[dt];exact Tf _ hw))) z h'
      ·exact hz z (Tf _ (by rw[dt];exact S4 _ h'))
     ·have hl:=hz _ (S4 _ (Tc (i:=4) rfl));simp only[SK,S0,or_false]at h';rcases h' with rfl|rfl|rfl|rfl|rfl
      ·exact hz _ (S4 _ (by simp))
      ·exact hz _ (S4 _ (by simp))
      ·exact hz _ (S4 _ (by simp))
      ·exact hz _ (S4 _ (by simp))
      ·exact hl
   have e1:pL f deep (u6 x h) (σ,.ready) (dQ h ns)=kV (bD (iZ f deep) ((iu x h ns).map (dA h ns)) (σ,.ready)):=(by unfold pL;rw[LZ h4 jI]);rw[e1]at dz;refine cx (ahK (x:=x) (h:=h) (ns:=ns) (qs:=qs) (N:=N+6+M.length+5) (ir:=N+6+M.length+1) (it:=N+6+M.length+2) (is:=N+6+M.length+3) (tc:=dQ h ns) (σ:=(σ,Lp.ready)) hx h4 jI xG (λtc m L=> ?_) (λtc m L=> ?_) (λtc ee m L=> ?_) (λtc m L=> ?_) Ae x6 (λq tc ee m hz z eZ=> ?_) mi rfl ⟨JN,rfl⟩ (hA ns ik) (λee atG=> ?_))
   ·rw[SC];exact pb _ _ 1
   ·rw[SC];exact pb _ _ 2
   ·rw[SC,<- ek m.1,dU,SC];rfl
   ·rw[SC];exact pb _ _ 3
   ·rcases SR.1 eZ with h'|h'
    ·exact hz z (Tf _ h')
    ·simp only[SK,S0,or_false]at h';rcases h' with rfl|rfl|rfl|rfl|rfl
     ·exact hz _ (by simp)
     ·exact hz _ (by simp)
     ·exact anP _ _ _
     ·exact hz _ (by simp)
     ·exact hz _ (by simp)
   have l5:∀(σ:S)(L:List aa),(P1 σ++L)[N+6+M.length+4]?=L[4]?:=λσ L=>pb σ L 4;have pK:∀(σ:S)(L:List aa)(y:aa),(P1 σ++L).set (N+6+M.length+4) y=P1 σ++L.set 4 y:=λσ L y=>(by rw[<- ek σ,dU]);cases cK:bD (iZ f deep) ((iu x h ns).map (dA h ns)) (σ,.ready)with
   |go m=>
    obtain⟨τ,lp⟩:=m;have gV:lp=.ready:=AM (I:=λm:S×Lp=>m.2=.ready) (A:=λ_=>True) (λs a s' _ _ e=>arJ e) _ _ _ (λ_ _=>trivial) rfl cK;subst gV;rw[cK]at dz;simp only[kV,cX]at dz;simp only[f_,SO];refine⟨.ready,none,_,_,_,_,_,_,_,by rw[l5];rfl,by decide,?_⟩;rw[pK,G7];(try simp only[seval]);exact Jo oi τ .ready true _ _ dz
   |stop m=>
    obtain⟨τ,lp⟩:=m;have gV:lp=.ret\/lp=.exit 3:=by
     obtain⟨_,_,q⟩:=No cK;exact arK q
    rw[cK]at dz;rcases gV with rfl|rfl
    ·simp only[kV,cX]at dz;simp only[f_,SO];refine⟨.done,some .ret,_,_,_,_,_,_,_,by rw[l5];rfl,by decide,?_⟩;rw[pK,aou];(try simp only[seval]);exact Jo oi τ .ret false _ _ dz
    ·simp only[kV,cX]at dz;simp only[f_,SO];refine⟨.done,some (.exit 3),_,_,_,_,_,_,_,by rw[l5];rfl,by decide,?_⟩;rw[pK,aot];(try simp only[seval]);exact Jo oi τ .ready true _ _ dz
   |bad m=>
    obtain⟨τ,lp⟩:=m;rw[cK]at dz;simp only[kV,cX]at dz;simp only[f_,SO];exact aiN oi τ _ dz
  ·obtain⟨σ',lp⟩:=m;obtain⟨τ,Di⟩:=m';obtain⟨ns,ik,rfl⟩:=ha;have e1:pL f deep (u6 x h) (σ',lp) (dQ h ns)=kV (bD (iZ f deep) ((iu x h ns).map (dA h ns)) (σ',.ready)):=(by unfold pL;rw[LZ h4 (MI ik)]);rw[e1]at he;exact aeF hY.inv (hA ns ik) hm.1 he
  ·rcases SR.1 eZ with h'|h'
   ·exact hY.ok q m.1 m'.1 (λw hw=>hz w (Tf _ hw)) z h'
   ·have hl:=hz _ (S4 _ (Tc (i:=5) rfl));simp only[SK,S0,or_false]at h';rcases h' with rfl|rfl|rfl|rfl|rfl|rfl
    ·exact hz _ (S4 _ (by simp))
    ·exact hz _ (S4 _ (by simp))
    ·exact hz _ (S4 _ (by simp))
    ·exact hz _ (S4 _ (by simp))
    ·exact hz _ (S4 _ (by simp))
    ·exact hl
 obtain⟨dY,uT⟩:=adj (f:=f) (deep:=deep) (L:=u6 x h) ((fY x h).map (dQ h)) σ;rw[<- arP h4]at dY;have g4:∀(σ:S)(L:List aa),(Gf σ++L)[N+4]?=L[4]?:=λσ L=>hY.get σ L 4;have g5:∀(σ:S)(L:List aa),(Gf σ++L)[N+4+1]?=L[5]?:=λσ L=>hY.get σ L 5;have s4:∀(σ:S)(L:List aa) y,(Gf σ++L).set (N+4) y=Gf σ++L.set 4 y:=λσ L y=>hY.set σ L 4 y;have s5:∀(σ:S)(L:List aa) y,(Gf σ++L).set (N+4+1) y=Gf σ++L.set 5 y:=λσ L y=>hY.set σ L 5 y;have rV:∀n,Lt n (.aL []):=λn=>by simp[jL]
 refine cx (ahI (x:=x) (h:=h) (N:=N+6) (ir:=N+2) (ih:=N+3) (σ:=(σ,Lp.ready)) hx hh ajD (λm L=> ?_) (λm L=> ?_) mi ⟨hI,rfl⟩ (λa ha=> ?_) ?_)
 ·rw[SC,hY.get m.1 _ 2];rfl
 ·rw[SC,hY.get m.1 _ 3];rfl
 ·obtain⟨ns,h1,rfl⟩:=Tl.1 ha;exact⟨ns,h1,rfl⟩
 cases bH:bD (pL f deep (u6 x h)) ((fY x h).map (dQ h)) (σ,.ready)with
 |go m=>
  obtain⟨σ',lp⟩:=m;have gV:lp=.ready:=uT _ bH;subst gV;rw[bH]at dY;have aJ:=Nl (r':=.go σ') dY.symm hk;simp only[f_,SO]at aJ⊢;refine⟨.ready,none,_,_,_,_,_,_,_,by rw[g5];rfl,by decide,?_⟩;rw[s5];simp only[UF,TZ];rw[G6];(try simp only[seval]);rw[zy (by rw[g4];rfl),zA,s4];(try simp only[seval]);rw[<- hN];exact vp hY hH rV aJ
 |stop m=>
  obtain⟨σ',lp⟩:=m;have gV:lp=.ret:=by
   obtain⟨_,_,q⟩:=No bH;exact arG q
  subst gV;rw[bH]at dY;have aJ:=Nl (r':=.stop σ') dY.symm hk;simp only[f_,SO]at aJ⊢;refine⟨.done,some .ret,_,_,_,_,_,_,_,by rw[g5];rfl,by decide,?_⟩;rw[s5];simp only[UF,TZ];rw[aos];(try simp only[seval]);rw[zy (by rw[g4];rfl),zA,s4];(try simp only[seval]);rw[<- hN];exact vp hY hH rV aJ
 |bad m=>
  obtain⟨σ',lp⟩:=m;rw[bH]at dY;have aJ:=Nl (r':=.bad σ') dY.symm hk;simp only[f_,SO]at aJ⊢;rw[zy (by rw[g4];rfl),zA,s4];rw[AB,<- hN];exact vp hY hH mi aJ
end
open Go.Conc Go.Proofs Go.Gg.Tk
namespace Tk
def mJ (x y:Int):Int:=if x<y then -1 else if y<x then 1 else 0
def od:List Int->List Int->Int
 |a::l,b::m=>if mJ a b≠0 then mJ a b else od l m
 |[],[]=>0
 |[],_::_=> -1
 |_::_,[]=>1
def sM (a b:List Int):Bool:=if a.take 4=b.take 4 then(if od ((a.drop 4).take 4) ((b.drop 4).take 4)≠0 then decide (od ((a.drop 4).take 4) ((b.drop 4).take 4)<0)else decide (od (a.drop 8) (b.drop 8)<0))else decide (od (a.take 4) (b.take 4)<0)
end Tk
theorem EW{ca pa ra:List AV}{xs:List Int}{o i:Nat}{x:Int}(hc:ca=pa++(xs.map iv++ra))(ho:pa.length=o)(h:xs[i]?=some x):ca.drop (o+i)=iv x::((xs.drop (i+1)).map iv++ra):=by
 subst hc ho;rw[Vy,TV (by omega),UJ,show pa.length+i-pa.length=i by omega,Vy,kX h,show i-(xs.map iv).length=0 by have:=eR h;simp;omega,Xy];rfl
section
variable {lv:Bool}{H:List aa}{k kp:AV->List aa->Prop}
theorem PX{x:Int}(hk:k (bv false) H):bh lv SA 143 H [iv x] k kp:=by
 refine bF (rs:=[.tmp 2]) (nt:=6) Tryz.f143 λhH hA=> ?_;simp only[bk,SV];refine ak ?_;refine ai ?_;simp only[seval,bne_self_eq_false];refine aZ ?_;refine bW ?_;simpa using hk
theorem ahN{x y:Int}(hk:k (iv (mJ x y)) H):bh lv SA 142 H [iv x,iv y] k kp:=by
 refine bF (rs:=[.tmp 4]) (nt:=20) Tryz.f142 λhH hA=> ?_;simp only[bk,SV];refine ak ?_;refine ak ?_;refine aI ((PX ?_));(try simp only[seval]);refine ak ?_;refine aI ((PX ?_));(try simp only[seval]);refine ak ?_;refine aD ?_;refine aN ?_;refine ak ?_;refine aD ?_;refine aN ?_;refine ak ?_;refine aD ?_;refine⟨λh=> ?_,λh=> ?_⟩
 ·refine ak ?_;refine aZ ?_;rw[mJ,if_pos h]at hk;exact bW hk
 ·refine aN ?_;refine ak ?_;refine aD ?_;refine⟨λh2=> ?_,λh2=> ?_⟩
  ·refine ak ?_;refine aZ ?_;rw[mJ,if_neg h,if_pos h2]at hk;exact bW hk
  ·refine aN ?_;refine ak ?_;refine aZ ?_;rw[mJ,if_neg h,if_neg h2]at hk;exact bW hk
theorem Jc{xs ys:List Int}{ia oa ib ob ta tb:Nat}{ca cb pa ra pb rb:List AV}(ha:H[ia]?=some (.cells ca ta))(hb:H[ib]?=some (.cells cb tb))(hca:ca=pa++(xs.map iv++ra))(Lb:pa.length=oa)(hcb:cb=pb++(ys.map iv++rb))(hpb:pb.length=ob)(hl:ys.length=xs.length)(h4:xs.length<=4)(hk:k (iv (od xs ys)) H):
  bh lv SA 138 H [.bw ia oa xs.length xs.length,.bw ib ob ys.length ys.length] k kp:=by
 refine bF (rs:=[.tmp 4]) (nt:=36) Tryz.f138 λhH hA=> ?_;simp only[bk,SV];refine ak ?_;refine ak ?_;refine cq ?_;refine sJ xs.length (λi:Nat=>[(11,iv i)]) (λ_=>H) (λi=>od xs ys=od (xs.drop i) (ys.drop i)) rfl (λbQ cP i cK hI R hR=> ?_);refine ak ?_;refine aD ?_;refine⟨λh=> ?_,λh=> ?_⟩
 ·have bB:i<xs.length:=by omega
  obtain⟨x,hx⟩:=b9 bB;obtain⟨y,hy⟩:=b9 (xs:=ys) (i:=i) (by omega);have bM:SD.wrap ((i:Int)+1)=((i+1:Nat):Int):=by rw[bA _ (by omega)];rfl
  have lr:od xs ys=if mJ x y≠0 then mJ x y else od (xs.drop (i+1)) (ys.drop (i+1)):=by rw[hI,vU hx,vU hy,od]
  refine aN ?_;refine ai ?_;simp only[seval,ha,jc bB,EW hca Lb hx];refine ak ?_;refine aD ?_;refine⟨λh2=>by exfalso;omega,λh2=> ?_⟩;refine aN ?_;refine ai ?_;simp only[seval,hb,jc (show i<ys.length by omega),EW hcb hpb hy];refine ak ?_;refine aI ((ahN ?_));(try simp only[seval]);refine ak ?_;refine aD ?_;refine⟨λh3=> ?_,λh3=> ?_⟩
  ·refine ak ?_;refine aZ ?_;rw[lr,if_pos (by simpa using h3)]at hk;exact bW hk
  ·refine aN ?_;refine ai ?_;simp only[seval,bM];refine hR _ ⟨bB,?_,da⟩;rw[lr,if_neg (by simpa using h3)]
 ·have dx:i=xs.length:=by omega
  subst dx;refine bX ?_;refine ai ?_;simp only[seval,hl];refine aD ?_;refine⟨λh2=>by exfalso;omega,λh2=> ?_⟩;refine aN ?_;refine ak ?_;refine aZ ?_;rw[hI,List.drop_length,TV (WI hl),od]at hk;exact bW hk
theorem F.D6:SA.underlying 83=some (.array 4 3):=by kernel_rfl
theorem F.u3:SA.underlying 3=some (.int .i64):=by kernel_rfl
theorem aeq{P:SI}{t e:TypeId}{k0:TW}{n:Nat}{xs ys:List Int}(ht:P.underlying t=some (.array n e))(he:P.underlying e=some (.int k0))(hs:(P.info? e).map (·.size)=some 1)(hg:P.eqGuardType P.depth t=false)(hx:xs.length=n)(hy:ys.length=n)(k:AV->Prop):
  dH P .neq t (.agg (xs.map iv)) (.agg (ys.map iv)) k=k (bv (!(xs==ys))):=by
 obtain⟨i,hi,hs⟩:=Tq.1 hs;have CX:=acW ht he hi hs hx hy;have e:dH P .neq t (.agg (xs.map iv)) (.agg (ys.map iv)) k=((Wx=.eql\/Wx=.neq)/\ao (AV.raw (.agg (xs.map iv))) λX=>ao (AV.raw (.agg (ys.map iv))) λY=>zo X Y=true/\P.eqGuardType P.depth t=false/\∃e,cM P (Xn t X Y) e/\k (.val (.bool (if Wx== .neq then !e else e)))):=rfl;rw[e,yy,yy,AB,AB];apply propext;constructor
 ·rintro⟨_,_,_,b,h1,h2⟩
  rw[CX.uniq h1];exact h2
 ·intro h;exact⟨.inr rfl,rfl,hg,_,CX,h⟩
theorem F.i3s:(SA.info? 3).map (·.size)=some 1:=by kernel_rfl
theorem F.g83:SA.eqGuardType SA.depth 83=false:=by kernel_rfl
theorem ahM{a b:List Int}(ha:a.length=11)(hb:b.length=11)(hk:k (bv (sM a b)) H):bh lv SA 128 H [.agg (a.map iv),.agg (b.map iv)] k kp:=by
 refine bF (rs:=[.tmp 4]) (nt:=32) Tryz.f128 λhH hA=> ?_;simp only[bk,SV];have ham:(a.map iv).length=11:=by rw[Tn,ha]
 have v_:(b.map iv).length=11:=by rw[Tn,hb]
 have ea:a.map iv=(a.take 4).map iv++(((a.drop 4).take 4).map iv++(a.drop 8).map iv):=by
  rw[<- TD,<- TD];congr 1;have:(a.drop 4).take 4++a.drop 8=a.drop 4:=by
   conv=>rhs;rw[<- Vj 4 (a.drop 4)]
   rw[ak_]
  rw[this,Vj]
 have eb:b.map iv=(b.take 4).map iv++(((b.drop 4).take 4).map iv++(b.drop 8).map iv):=by
  rw[<- TD,<- TD];congr 1;have:(b.drop 4).take 4++b.drop 8=b.drop 4:=by
   conv=>rhs;rw[<- Vj 4 (b.drop 4)]
   rw[ak_]
  rw[this,Vj]
 refine ak ?_;refine ai ?_;simp only[seval,ham,v_,ha,hb];have F':(a.take 4).length=4:=by simp[ha]
 have LA:(b.take 4).length=4:=by simp[hb]
 have Ly:((a.drop 4).take 4).length=4:=by simp[ha]
 have aad:((b.drop 4).take 4).length=4:=by simp[hb]
 have Lz:(a.drop 8).length=3:=by simp[ha]
 have aae:(b.drop 8).length=3:=by simp[hb]
 rw[<- VX,<- VX,aeq F.D6 F.u3 F.i3s F.g83 F' LA];refine aD ?_;refine⟨λh=> ?_,λh=> ?_⟩
 ·refine eO 4 ?_;simp only[seval];have c1:=λk kp=>Jc (lv:=lv) (k:=k) (kp:=kp) (H:=H++[.cells (a.map iv) 86,.cells (b.map iv) 86]) (xs:=a.take 4) (ys:=b.take 4) (ia:=H.length) (ib:=H.length+1) (oa:=0) (ob:=0) (pa:=[]) (pb:=[]) (aX H _ 0) (aX H _ 1) ea rfl eb rfl (by rw[F',LA]) (by rw[F'];exact SQ _);simp only[F',LA]at c1;refine aI ((c1 _ _ ?_));(try simp only[seval]);refine aZ ?_;rw[sM,if_neg (by simpa using h)]at hk;exact lG hH hk
 ·have h:=(by simpa using h:a.take 4=b.take 4);rw[sM,if_pos h]at hk;refine aN ?_;refine eO 4 ?_;simp only[seval];have c2:=λk kp=>Jc (lv:=lv) (k:=k) (kp:=kp) (H:=H++[.cells (a.map iv) 86,.cells (b.map iv) 86]) (xs:=(a.drop 4).take 4) (ys:=(b.drop 4).take 4) (ia:=H.length) (ib:=H.length+1) (oa:=4) (ob:=4) (pa:=(a.take 4).map iv) (pb:=(b.take 4).map iv) (aX H _ 0) (aX H _ 1) ea (by simp[ha]) eb (by simp[hb]) (by rw[Ly,aad]) (by rw[Ly];exact SQ _);simp only[Ly,aad]at c2;refine aI ((c2 _ _ ?_));(try simp only[seval]);refine ak ?_;refine aD ?_;refine⟨λh2=> ?_,λh2=> ?_⟩
  ·refine ak ?_;refine aZ ?_;rw[if_pos (by simpa using h2)]at hk;exact lG hH hk
  ·refine aN ?_;rw[if_neg (by simpa using h2)]at hk;refine eO 4 ?_;simp only[seval];have c3:=λk kp=>Jc (lv:=lv) (k:=k) (kp:=kp) (H:=H++[.cells (a.map iv) 86,.cells (b.map iv) 86]) (xs:=a.drop 8) (ys:=b.drop 8) (ia:=H.length) (ib:=H.length+1) (oa:=8) (ob:=8) (pa:=(a.take 4).map iv++((a.drop 4).take 4).map iv) (pb:=(b.take 4).map iv++((b.drop 4).take 4).map iv) (ra:=[]) (rb:=[]) (aX H _ 0) (aX H _ 1) (by rw[ea];simp) (by simp[ha]) (by rw[eb];simp) (by simp[hb]) (by rw[Lz,aae]) (by rw[Lz];omega);simp only[Lz,aae]at c3;refine aI ((c3 _ _ ?_));(try simp only[seval]);refine aZ ?_;exact lG hH hk
end
open Go.Conc Go.Proofs Go.Gg.Tk
theorem GI{α:Type}{g:α->AV}{ca pa ra:List AV}{xs:List α}{o i:Nat}{x:α}(hc:ca=pa++(xs.map g++ra))(ho:pa.length=o)(h:xs[i]?=some x):ca.drop (o+i)=g x::((xs.drop (i+1)).map g++ra):=by
 subst hc ho;rw[Vy,TV (by omega),UJ,show pa.length+i-pa.length=i by omega,Vy,zn h,show i-(xs.map g).length=0 by have:=eR h;simp;omega,Xy];rfl
theorem GJ{α:Type}{g:α->AV}{ca pa ra:List AV}{xs:List α}{o i:Nat}{y:α}(hc:ca=pa++(xs.map g++ra))(ho:pa.length=o)(h:i<xs.length):ca.take (o+i)++[g y]++ca.drop (o+i+1)=pa++((xs.set i y).map g++ra):=by
 subst hc ho;have h1:(pa++(xs.map g++ra)).take (pa.length+i)=pa++(xs.map g).take i:=by
  rw[List.take_append,SX (by omega),show pa.length+i-pa.length=i by omega,Tw (by simp;omega)]
 have h2:(pa++(xs.map g++ra)).drop (pa.length+i+1)=(xs.map g).drop (i+1)++ra:=by
  rw[Vy,TV (by omega),UJ,show pa.length+i+1-pa.length=i+1 by omega,Wq (by simp;omega)]
 rw[h1,h2,<- Nu h];simp[SC]
namespace Tk
def Kn.l (F:Kn)(mp:Nat):List AV:=bv F.has:: .mp mp::(F.aA.map (λn=>wv n)++(F.hours.map (λn=>wv n)++(F.less.map (λn=>wv n)++(F.aU.map (λn=>wv n)++F.first.map iv))))
structure bJ (F:Kn):Prop where
 aA:F.aA.length=4
 hours:F.hours.length=4
 less:F.less.length=4
 aU:F.aU.length=3
 first:F.first.length=11
 mv:∀n∈F.aA,n<65536
 mK:∀n∈F.hours,n<65536
 mR:∀n∈F.less,n<65536
 lY:∀n∈F.aU,n<65536
 h4:∀h∈F.aK,h.length=4
theorem Kn.len{F:Kn}(h:bJ F)(mp:Nat):(F.l mp).length=28:=by simp[Kn.l,h.aA,h.hours,h.less,h.aU,h.first]
theorem Kn.GN{F:Kn}{mp p n:Nat}(h:F.aA[p]?=some n):(F.l mp).drop (2+p)=wv n::((F.aA.drop (p+1)).map (λn=>wv n)++(F.hours.map (λn=>wv n)++(F.less.map (λn=>wv n)++(F.aU.map (λn=>wv n)++F.first.map iv)))):=GI (pa:=[bv F.has,.mp mp]) rfl rfl h
theorem Kn.abm{F:Kn}{mp p v:Nat}(h:p<F.aA.length):(F.l mp).take (2+p)++[wv v]++(F.l mp).drop (2+p+1)=({F with aA:=F.aA.set p v}:Kn).l mp:=GJ (g:=λn=>wv n) (pa:=[bv F.has,.mp mp]) rfl rfl h
theorem Kn.K_{F:Kn}(k:bJ F){mp p n:Nat}(h:F.hours[p]?=some n):(F.l mp).drop (6+p)=wv n::((F.hours.drop (p+1)).map (λn=>wv n)++(F.less.map (λn=>wv n)++(F.aU.map (λn=>wv n)++F.first.map iv))):=GI (pa:=bv F.has:: .mp mp::F.aA.map (λn=>wv n)) rfl (by simp[k.aA]) h
theorem Kn.Sj{F:Kn}(k:bJ F){mp p v:Nat}(h:p<F.hours.length):(F.l mp).take (6+p)++[wv v]++(F.l mp).drop (6+p+1)=({F with hours:=F.hours.set p v}:Kn).l mp:=GJ (g:=λn=>wv n) (pa:=bv F.has:: .mp mp::F.aA.map (λn=>wv n)) rfl (by simp[k.aA]) h
theorem Kn.Mp{F:Kn}(k:bJ F){mp p n:Nat}(h:F.less[p]?=some n):(F.l mp).drop (10+p)=wv n::((F.less.drop (p+1)).map (λn=>wv n)++(F.aU.map (λn=>wv n)++F.first.map iv)):=GI (pa:=bv F.has:: .mp mp::(F.aA.map (λn=>wv n)++F.hours.map (λn=>wv n))) (by simp[Kn.l]) (by simp[k.aA,k.hours]) h
theorem Kn.aaL{F:Kn}(k:bJ F){mp p v:Nat}(h:p<F.less.length):(F.l mp).take (10+p)++[wv v]++(F.l mp).drop (10+p+1)=({F with less:=F.less.set p v}:Kn).l mp:=by
 have:=GJ (g:=λn=>wv n) (ca:=F.l mp) (y:=v) (pa:=bv F.has:: .mp mp::(F.aA.map (λn=>wv n)++F.hours.map (λn=>wv n))) (ra:=F.aU.map (λn=>wv n)++F.first.map iv) (by simp[Kn.l]) (show _=10 by simp[k.aA,k.hours]) h;rw[this];simp[Kn.l]
theorem Kn.DC{F:Kn}(k:bJ F){mp p n:Nat}(h:F.aU[p]?=some n):(F.l mp).drop (14+p)=wv n::((F.aU.drop (p+1)).map (λn=>wv n)++F.first.map iv):=GI (pa:=bv F.has:: .mp mp::(F.aA.map (λn=>wv n)++(F.hours.map (λn=>wv n)++F.less.map (λn=>wv n)))) (by simp[Kn.l]) (by simp[k.aA,k.hours,k.less]) h
theorem Kn.abH{F:Kn}(k:bJ F){mp p v:Nat}(h:p<F.aU.length):(F.l mp).take (14+p)++[wv v]++(F.l mp).drop (14+p+1)=({F with aU:=F.aU.set p v}:Kn).l mp:=by
 have:=GJ (g:=λn=>wv n) (ca:=F.l mp) (y:=v) (pa:=bv F.has:: .mp mp::(F.aA.map (λn=>wv n)++(F.hours.map (λn=>wv n)++F.less.map (λn=>wv n)))) (ra:=F.first.map iv) (by simp[Kn.l]) (show _=14 by simp[k.aA,k.hours,k.less]) h;rw[this];simp[Kn.l]
theorem Kn.B7{F:Kn}{mp:Nat}:(F.l mp)[0]?=some (bv F.has):=rfl
theorem Kn.agX{F:Kn}{mp:Nat}:(F.l mp).drop 1=.mp mp::(F.aA.map (λn=>wv n)++(F.hours.map (λn=>wv n)++(F.less.map (λn=>wv n)++(F.aU.map (λn=>wv n)++F.first.map iv)))):=rfl
theorem Kn.aqj{F:Kn}{mp:Nat}:(F.l mp).take 0++[bv true]++(F.l mp).drop (0+1)=({F with has:=true}:Kn).l mp:=rfl
theorem Kn.ack{F:Kn}(k:bJ F){mp:Nat}{t:List Int}(ht:t.length=11):(F.l mp).take 17++t.map iv++(F.l mp).drop (17+11)=({F with first:=t}:Kn).l mp:=by
 have e:F.l mp=(bv F.has:: .mp mp::(F.aA.map (λn=>wv n)++(F.hours.map (λn=>wv n)++(F.less.map (λn=>wv n)++F.aU.map (λn=>wv n)))))++F.first.map iv:=by simp[Kn.l]
 have hl:(bv F.has::AV.mp mp::(F.aA.map (λn=>wv n)++(F.hours.map (λn=>wv n)++(F.less.map (λn=>wv n)++F.aU.map (λn=>wv n))))).length=17:=by simp[k.aA,k.hours,k.less,k.aU]
 rw[TV (by rw[Kn.len k];omega),e,Tw (by omega),SX (by omega),SO];simp[Kn.l]
structure ju (x:aj)(t:List Int):Prop where
 len:t.length=11
 bG:mD (t.take 4)
 num:∀p,p<x.pieces.length->∃n:Nat,t[4+p]?=some (n:Int)/\n<9/\0<=jo (t.take 4) (n+t.getD 0 0)
 own:∀s,s<x.aB.length->∃o:Nat,t[8+s]?=some (o:Int)/\o<4
end Tk
def setH (hs:List (List Int)):aa:=.obj (.map (hs.zipIdx.map ew).toArray hs.length)
theorem qH{H:List aa}{i:Nat}{x:aa}(h:H[i]?=some x):H.set i x=H:=by
 apply Yk;intro j;rw[UQ];split
 ·rename_i e;subst e;rw[if_pos (eR h)];exact h.symm
 ·rfl
theorem vt{H L:List aa}{i:Nat}{x:aa}(h:i<H.length):(H++L).set i x=H.set i x++L:=US _ _ h
section
variable {lv:Bool}{H:List aa}{k kp:AV->List aa->Prop}
theorem OY{F:Kn}{t:List Int}(h:bJ F)(ht:t.length=11):bJ (jV F t):=by
 unfold jV;split
 ·exact h
 ·exact⟨h.aA,h.hours,h.less,h.aU,ht,h.mv,h.mK,h.mR,h.lY,h.h4⟩
theorem Dk{l:List Nat}{i v:Nat}(h:∀n∈l,n<65536)(hv:v<65536):∀n∈l.set i v,n<65536:=λn hn=>by
 rcases UC hn with h'|rfl
 ·exact h n h'
 ·exact hv
theorem Tk.bJ.DN{G:Kn}(h:bJ G){i v:Nat}(hv:v<65536):bJ {G with aU:=G.aU.set i v}:=⟨h.aA,h.hours,h.less,by simp[h.aU],h.first,h.mv,h.mK,h.mR,Dk h.lY hv,h.h4⟩
theorem Tk.bJ.acp{G:Kn}(h:bJ G){i v:Nat}(hv:v<65536):bJ {G with aA:=G.aA.set i v}:=⟨by simp[h.aA],h.hours,h.less,h.aU,h.first,Dk h.mv hv,h.mK,h.mR,h.lY,h.h4⟩
theorem Tk.bJ.acn{G:Kn}(h:bJ G){i v:Nat}(hv:v<65536):bJ {G with hours:=G.hours.set i v}:=⟨h.aA,by simp[h.hours],h.less,h.aU,h.first,h.mv,Dk h.mK hv,h.mR,h.lY,h.h4⟩
theorem Tk.bJ.aco{G:Kn}(h:bJ G){i v:Nat}(hv:v<65536):bJ {G with less:=G.less.set i v}:=⟨h.aA,h.hours,by simp[h.less],h.aU,h.first,h.mv,h.mK,Dk h.mR hv,h.lY,h.h4⟩
theorem EB{l:List Nat}{i n v:Nat}(h:l[i]?=some n):oU l i v=l.set i (n|||2^v):=by
 unfold oU;rw[SE,h];rfl
theorem acm(hs:List (List Int)):setH hs=.obj (.map (hs.zipIdx.map ew).toArray hs.length):=rfl
theorem acl(hs:List (List Int))(h:List Int):setH (hs++[h])=.obj (.map ((hs.zipIdx++[(h,hs.length)]).map ew).toArray (hs.length+1)):=by
 rw[acm,List.zipIdx_append,SN];simp
theorem Eb{α:Type}{l:List α}{y:α×Nat}(h:y∈l.zipIdx):y.1∈l:=by
 obtain⟨a,b⟩:=y;have:=List.mem_zipIdx h;simp at this;rw[this.2];exact Wu _
theorem Jp{x:List Int}{hs:List (List Int)}:(p8 x hs.zipIdx 0=none/\x∉hs)\/(∃i b,p8 x hs.zipIdx 0=some (i,.bool true)/\hs.zipIdx[i]?=some (x,b)/\x∈hs):=by
 cases h:p8 x hs.zipIdx 0 with
 |none=>
  refine .inl ⟨rfl,λhm=> ?_⟩;obtain⟨i,hi⟩:=UR.1 hm;have:(x,i)∈hs.zipIdx:=UR.2 ⟨i,by rw[List.getElem?_zipIdx,hi];simp⟩;exact Qc h _ this rfl
 |some p=>
  obtain⟨i,v⟩:=p;obtain⟨b,_,h2,rfl⟩:=Qd h;rw[ZW]at h2;exact .inr ⟨i,b,rfl,h2,Eb (y:=(x,b)) (Tc h2)⟩
theorem F.i3:∃i,SA.info? 3=some i/\i.size=1:=by
 obtain⟨i,h1,h2⟩:=Tq.1 F.i3s;exact⟨i,h1,h2⟩
theorem vq{H L:List aa}{i:Nat}{z:aa}(h:i<H.length):(H.set i z++L)[i]?=some z:=by
 rw[SW (by simpa using h),UQ,if_pos rfl,if_pos h]
theorem vr{H L:List aa}{i:Nat}{z y:aa}(h:i<H.length):(H.set i z++L).set i y=H.set i y++L:=by
 rw[vt (by simpa using h),W6]
theorem aiC{x:aj}{t:List Int}{deep:Int}{fp mp:Nat}{Q:Kn}(hx:x.Ok)(ht:ju x t)(hQ:bJ Q)(mf:fp≠mp)(hf:H[fp]?=some (.cells (Q.l mp) 88))(hm:H[mp]?=some (setH Q.aK))(hk:k (.aL []) ((H.set fp (.cells ((eE x deep Q t).l mp) 88)).set mp (setH (eE x deep Q t).aK))):bh lv SA 99 H [.op fp 0,x.av,.agg (t.map iv),iv deep] k kp:=by
 refine bF (rs:=[]) (nt:=135) Tryz.f99 λhH hA=> ?_;simp only[bk,SV,aj.av];have kg:=ht.len;have JF:(t.map iv).length=11:=by rw[Tn,kg]
 have lh:=eR hf;have ws:=eR hm;have RS:=Kn.len hQ mp;have bO:x.l=[iv x.first,iv x.hours,iv x.am,dS x.seen,aW x.pieces,aW x.aB]:=rfl;have dw:∀(L:List aa) i,(H++L)[H.length+i]?=L[i]?:=λL i=>aX H L i;obtain⟨R1,qa⟩:∃R1,R1=jV Q t:=⟨_,rfl⟩;have nv:bJ R1:=by rw[qa];exact OY hQ kg
 have Cf:R1.aK=Q.aK:=by rw[qa];unfold jV;split<;>rfl
 obtain⟨H1,lI⟩:∃H1,H1=H.set fp (.cells (R1.l mp) 88):=⟨_,rfl⟩;have cU:H1.length=H.length:=by rw[lI,TF]
 have xB:H1[fp]?=some (.cells (R1.l mp) 88):=by rw[lI,UQ,if_pos rfl,if_pos lh]
 have Fi:H1[mp]?=some (setH R1.aK):=by rw[lI,T6 mf,Cf];exact hm
 have akR:∀G:Kn,∀hs:List (List Int),bI ((H1.set fp (.cells (G.l mp) 88)).set mp (setH hs)):=λG hs=>by
  have hl:((H1.set fp (.cells (G.l mp) 88)).set mp (setH hs)).length=H.length:=by rw[TF,TF,cU]
  intro z hz;rw[hl];rcases UC hz with hz|rfl
  ·rcases UC hz with hz|rfl
   ·rw[lI]at hz;rcases UC hz with hz|rfl
    ·exact hH z hz
    ·intro a ha;simp only[Kn.l,SK,SR,Tl]at ha;rcases ha with rfl|rfl|⟨_,_,rfl⟩|⟨_,_,rfl⟩|⟨_,_,rfl⟩|⟨_,_,rfl⟩|⟨_,_,rfl⟩
     ·exact .val _
     ·exact .mp (by omega)
     all_goals exact .val _
   ·intro a ha;simp only[Kn.l,SK,SR,Tl]at ha;rcases ha with rfl|rfl|⟨_,_,rfl⟩|⟨_,_,rfl⟩|⟨_,_,rfl⟩|⟨_,_,rfl⟩|⟨_,_,rfl⟩
    ·exact .val _
    ·exact .mp (by omega)
    all_goals exact .val _
  ·trivial
 have iD:k (.aL []) ((H1.set fp (.cells ((eE x deep Q t).l mp) 88)).set mp (setH (eE x deep Q t).aK)):=by rw[lI,W6];exact hk
 have dY:∀(G:Kn)(hs:List (List Int))(L:List aa),eE x deep Q t=G->G.aK=hs->cF H1.length ((H1.set fp (.cells (G.l mp) 88)).set mp (setH hs)++L) (.aL []) k:=λG hs L hG iR=>by
  subst hG iR;exact jy (Wk.refl _) rfl (by rw[TF,TF,cU];exact SQ _) (akR _ _) (by simp[jL]) iD
 have aF:eE x deep Q t=(if deep=2 then{R1 with aU:=mT t x.aB.length R1.aU}else if deep=0 then{R1 with aK:=jM R1.aK (t.take 4)}else{R1 with aA:=rW t x.pieces.length R1.aA,hours:=wx t x.pieces.length R1.hours,less:=ym t x.pieces.length x.pieces.length R1.less}):=by rw[qa];rfl
 rw[aF]at dY;clear hk iD aF;refine ak ?_;refine ai ?_;simp only[seval,fO hf,Kn.B7];refine aD ?_;refine⟨λhc=> ?ga,λhc=> ?gb⟩
 case' ga=>
  have e1:R1={Q with has:=true,first:=t}:=by rw[qa];unfold jV;rw[hc];rfl
  have eH:∀L:List aa,(H++L).set fp (.cells (({Q with has:=true}:Kn).l mp) 88)=H.set fp (.cells (({Q with has:=true}:Kn).l mp) 88)++L:=λL=>vt lh;have Ft:bJ {Q with has:=true}:=⟨hQ.aA,hQ.hours,hQ.less,hQ.aU,hQ.first,hQ.mv,hQ.mK,hQ.mR,hQ.lY,hQ.h4⟩;have akx:=Kn.len Ft mp;have Hg:=Kn.ack Ft (mp:=mp) (t:=t) kg;have Ak:Ui 11 (t.map iv)=t.map iv:=SX (by omega);have akh:∀(z:aa)(L:List aa),(H.set fp z++L)[H.length+1]?=L[1]?:=λz L=>by have:=aX (H.set fp z) L 1;rwa [TF]at this
  refine oW [5,8] [0,1,2,3,4,5,6,7,8] [⟨0,false,[],[]⟩,⟨1,false,[],[([5],[5])]⟩,⟨2,false,[],[([5],[5])]⟩,⟨3,false,[],[]⟩,⟨4,false,[],[]⟩,⟨5,true,[5],[]⟩,⟨6,false,[5],[]⟩,⟨7,false,[5],[]⟩,⟨8,true,[5,8],[]⟩] (λD=>bif isDone 8 D then H1++[.cells x.l 76,.cells (t.map iv) 86]else bif isDone 5 D then H.set fp (.cells (({Q with has:=true}:Kn).l mp) 88)++[.cells x.l 76,.cells (t.map iv) 86]else H++[.cells x.l 76,.cells (t.map iv) 86]) ?_;simp only[seval,fO hf,vq lh,vr lh,vt lh,RS,akx,kg,JF,Ak,akh];have eL:(AV.val (.bool true)::(Ui 16 (T7 1 (Q.l mp))++t.map iv++T7 27 (T7 1 (Q.l mp))))=R1.l mp:=by rw[e1];exact Hg
  refine⟨by rfl,by rw[Un,RS];omega,by rw[eL,lI],?_⟩;rw[eL,<- lI,<- cU]
 case' gb=>
  have e1:R1=Q:=by rw[qa];unfold jV;rw[hc];rfl
  have I3:H1=H:=by rw[lI,e1];exact qH hf
  refine aN ?_;rw[<- I3]
 all_goals
  clear hc e1;have lN:fp<H1.length:=by omega
  have aT:∀(L:List aa),(H1++L)[H1.length]?=L[0]?:=λL=>aX H1 L 0;have du:∀(L:List aa),(H1++L)[H1.length+1]?=L[1]?:=λL=>aX H1 L 1;have db:∀(z:aa)(L:List aa),(H1.set fp z++L)[H1.length]?=L[0]?:=λz L=>by have:=aX (H1.set fp z) L 0;rwa [TF]at this
  have dP:∀(z:aa)(L:List aa),(H1.set fp z++L)[H1.length+1]?=L[1]?:=λz L=>by have:=aX (H1.set fp z) L 1;rwa [TF]at this
  have F6:∀G:Kn,G.aK=R1.aK->(H1.set fp (.cells (G.l mp) 88)).set mp (setH R1.aK)=H1.set fp (.cells (G.l mp) 88):=λG _=>qH (by rw[T6 mf];exact Fi);refine ak ?_;refine ak ?_;refine aD ?_;refine⟨λh2=> ?_,λh2=> ?_⟩
  ·
   replace h2:deep=2:=(by simpa using h2);have x8:=hx.dc;rw[if_pos h2]at dY;refine ai ?_;simp only[seval,aT,bO,aW];refine cq ?_;refine gD x.aB.length (λi:Nat=>[(30,iv i)]) (λi=>H1.set fp (.cells (({R1 with aU:=mT t i R1.aU}:Kn).l mp) 88)++[.cells x.l 76,.cells (t.map iv) 86]) (λi=>bJ {R1 with aU:=mT t i R1.aU}) (λ_ _=>rfl) (by simp only[seval];simp[bu,Wk.refl]) (by rw[show ({R1 with aU:=mT t 0 R1.aU}:Kn)=R1 from rfl,qH xB];rfl) (λ_ _ _=>by simp) nv (λbQ cP i cK au R hR=> ?_);refine ak ?_;refine aD ?_;refine⟨λh3=> ?_,λh3=> ?_⟩
   ·have bB:i<x.aB.length:=(by omega);obtain⟨o,ho,ho4⟩:=ht.own i bB;have qA:sg t i=o:=(by unfold sg;rw[SE,ho];rfl);obtain⟨n,hn⟩:=b9 (xs:=mT t i R1.aU) (i:=i) (by have:=au.aU;simp only at this;omega);have CH:n<65536:=au.lY n (Tc hn);have b3:(0<=(i:Int)/\(i:Int)<3)=True:=(by simp;omega);have bM:SD.wrap ((i:Int)+1)=((i+1:Nat):Int):=(by rw[bA _ (by omega)];rfl);have Aa:=Kn.DC au (mp:=mp) (p:=i) (n:=n) hn;have rK:=Kn.abH au (mp:=mp) (p:=i) (v:=n|||2^o) (eR hn);have dG:=Kn.len au mp;refine aN ?_;refine ak ?_;refine eO 15 ?_;simp only[seval,dP,vq lN,vr lN,b3,Aa,kX ho];refine iw (wv (n|||2^o)) (cx (uu CH (show o<16 by omega) ⟨rfl,rfl⟩)) ?_;(try simp only[seval,vq lN,vr lN,b3,dG]);refine⟨by omega,?_⟩;rw[rK];refine ai ?_;simp only[seval,bM];have cQ:mT t (i+1) R1.aU=(mT t i R1.aU).set i (n|||2^o):=(by rw[mT,qA,EB hn]);refine hR _ ⟨bB,?_,?_⟩
    ·rw[cQ];exact au.DN (pI CH (wR (by omega)))
    ·rw[cQ];exact da
   ·have dx:i=x.aB.length:=(by omega);subst dx;have:=dY _ R1.aK [.cells x.l 76,.cells (t.map iv) 86] rfl rfl;rw[F6 {R1 with aU:=mT t x.aB.length R1.aU} rfl]at this;refine bX ?_;refine aZ ?_;exact this
  ·replace h2:¬deep=2:=(by simpa using h2);rw[if_neg h2]at dY;refine ak ?_;refine aD ?_;refine⟨λh3=> ?_,λh3=> ?_⟩
   ·
    replace h3:deep=0:=(by simpa using h3);rw[if_pos h3]at dY;have CZ:(t.take 4).length=4:=(by simp[kg]);have tr:∀L:List aa,(H1++L)[mp]?=some (.obj (.map (R1.aK.zipIdx.map ew).toArray R1.aK.length)):=λL=>fO Fi;have hfp:∀L:List aa,(H1++L)[fp]?=some (.cells (R1.l mp) 88):=λL=>fO xB;have R8:mp<H1.length:=(by omega);obtain⟨i3,qi,py⟩:=F.i3;have JG:∀y∈R1.aK.zipIdx,y.1.length=4:=λy hy=>nv.h4 _ (Eb hy);have FH:=acY (ts:=R1.aK.zipIdx) F.D6 F.u3 qi py CZ JG;have FD:=λb=>acU (b:=b) (k:=.i64) (d:=9998) F.D6 F.u3 qi py CZ;refine eO 6 ?_;simp only[seval,hfp,du,tr,Kn.agX,kg,JF];rw[<- VX];refine d_ (yy _) (d_ rfl ⟨FD _,_,FH,?_,?_⟩)
    ·intro i v pk;rcases Jp (x:=t.take 4) (hs:=R1.aK)with⟨h,_⟩|⟨i',b,h,h2,_⟩
     ·rw[h]at pk;cases pk
     ·rw[h]at pk;cases pk;rw[To,h2];exact apZ _
    ·rcases Jp (x:=t.take 4) (hs:=R1.aK)with⟨h,hn⟩|⟨i',b,h,h2,hn⟩
     ·rw[h,abO,vt R8];have:=dY _ _ [.cells x.l 76,.cells (t.map iv) 86] rfl rfl;rw[show jM R1.aK (t.take 4)=R1.aK++[t.take 4] by rw[jM,if_neg hn],acl]at this;rw[show H1.set fp (.cells (({R1 with aK:=R1.aK++[t.take 4]}:Kn).l mp) 88)=H1 from qH xB]at this;refine aZ ?_;exact this
     ·rw[h,aoE h2,vt R8];have:=dY _ _ [.cells x.l 76,.cells (t.map iv) 86] rfl rfl;rw[show jM R1.aK (t.take 4)=R1.aK by rw[jM,if_pos hn],acm]at this;rw[show H1.set fp (.cells (({R1 with aK:=R1.aK}:Kn).l mp) 88)=H1 from qH xB]at this;refine aZ ?_;exact this
   ·
    replace h3:¬deep=0:=(by simpa using h3);rw[if_neg h3]at dY;refine aN ?_;have nH:=hx.eD;obtain⟨P,hP⟩:∃P:Nat->Kn,∀p,P p={R1 with aA:=rW t p R1.aA,hours:=wx t p R1.hours,less:=ym t x.pieces.length p R1.less}:=⟨_,λ_=>rfl⟩;obtain⟨P',Fs⟩:∃P':Nat->Nat->Kn,∀p q,P' p q={R1 with aA:=rW t (p+1) R1.aA,hours:=wx t (p+1) R1.hours,less:=wF t p q (ym t x.pieces.length p R1.less)}:=⟨_,λ_ _=>rfl⟩;have QW:P 0=R1:=(by rw[hP];rfl);have hPs:∀p,P' p x.pieces.length=P (p+1):=λp=>(by rw[hP,Fs];rfl);refine ai ?_;simp only[seval,aT,bO,aW];refine cq ?_;refine gD x.pieces.length (λi:Nat=>[(62,iv i)]) (λi=>H1.set fp (.cells ((P i).l mp) 88)++[.cells x.l 76,.cells (t.map iv) 86]) (λi=>bJ (P i)) (λ_ _=>rfl) (by simp only[seval];simp[bu,Wk.refl]) (by rw[QW,qH xB];rfl) (λ_ _ _=>by simp) (by rw[QW];exact nv) (λbQ cP p cK au R hR=> ?_);refine ak ?_;refine aD ?_;refine⟨λh=> ?_,λh=> ?_⟩
    ·have dG:p<x.pieces.length:=(by omega);obtain⟨o,ho,ho9,qA⟩:=ht.num p dG;obtain⟨n,hn⟩:=b9 (xs:=(P p).aA) (i:=p) (by have:=au.aA;omega);obtain⟨m,fV⟩:=b9 (xs:=(P p).hours) (i:=p) (by have:=au.hours;omega);have CH:n<65536:=au.mv n (Tc hn);have RZ:m<65536:=au.mK m (Tc fV);have b4:(0<=(p:Int)/\(p:Int)<4)=True:=(by simp;omega);have bM:SD.wrap ((p:Int)+1)=((p+1:Nat):Int):=(by rw[bA _ (by omega)];rfl);have Aa:=Kn.GN (mp:=mp) hn;have rK:=Kn.abm (mp:=mp) (p:=p) (v:=n|||2^o) (eR hn);have Sq:=Kn.len au mp;have lT:mz t p=o:=(by unfold mz;rw[SE,ho];rfl);refine aN ?_;refine ak ?_;refine eO 15 ?_;simp only[seval,dP,vq lN,vr lN,b4,Aa,kX ho];refine iw (wv (n|||2^o)) (cx (uu CH (show o<16 by omega) ⟨rfl,rfl⟩)) ?_;(try simp only[seval,vq lN,vr lN,b4,Sq]);refine⟨by omega,?_⟩;rw[rK];obtain⟨c0,xL⟩:=b9 (xs:=t) (i:=0) (by omega);have FB:t.getD 0 0=c0:=(by rw[SE,xL];rfl);rw[FB]at qA;have Rj:c0∈t.take 4:=by
      match t,kg,xL with
      |a::t',_,xL=>cases xL;simp
     have pn:=ht.bG.lo c0 Rj;have FK:=ht.bG.hi c0 Rj;have fh:SD.wrap ((o:Int)+c0)=(o:Int)+c0:=bA _ (by omega);have ajP:(t.map iv)[0]?=some (iv c0):=(by rw[To,xL];rfl);obtain⟨u,hu⟩:=Int.eq_ofNat_of_zero_le qA;have hu4:u<4:=by
      have h5:jo (t.take 4) ((o:Int)+c0)<0+(t.take 4).length:=ade;rw[ht.bG.len,hu]at h5;omega
     have hth:DY t p=u:=by
      unfold DY;rw[SE,ho,FB];simp only[S7];rw[hu];rfl
     obtain⟨G1,xD⟩:∃G1,G1=({P p with aA:=(P p).aA.set p (n|||2^o)}:Kn):=⟨_,rfl⟩;have Cc:bJ G1:=(by rw[xD];exact au.acp (pI CH (wR (by omega))));have KU:G1.hours[p]?=some m:=(by rw[xD];exact fV);rw[<- xD];have Sp:=Kn.K_ Cc (mp:=mp) KU;have St:=Kn.Sj Cc (mp:=mp) (p:=p) (v:=m|||2^u) (eR KU);have Sr:=Kn.len Cc mp;refine eO 22 ?_;simp only[seval,dP,vq lN,vr lN,b4,Sp,kX ho,JF,kg,fh];rw[<- VX];refine d_ ajP ?_;(try simp only[seval,fh]);refine iw (iv u) (cx (Qa (h:=t.take 4) (n:=(o:Int)+c0) ht.bG.len ⟨by rw[hu],rfl⟩)) ?_;refine iw (wv (m|||2^u)) (cx (uu RZ (show u<16 by omega) ⟨rfl,rfl⟩)) ?_;(try simp only[seval,vq lN,vr lN,b4,Sr]);refine⟨by omega,?_⟩;rw[St];have JU:({G1 with hours:=G1.hours.set p (m|||2^u)}:Kn)=P' p 0:=by
      rw[xD,Fs];simp only[hP]at hn fV⊢;rw[rW,lT,EB hn,wx,hth,EB fV];rfl
     have ajC:bJ (P' p 0):=(by rw[<- JU];exact Cc.acn (pI RZ (wR (by omega))));rw[JU];clear rK Aa Sq Cc KU Sp St Sr JU xD hn fV au;refine ai ?_;simp only[seval,db,bO,aW];refine cq ?_;refine gD x.pieces.length (λi:Nat=>[(108,iv i)]) (λi=>H1.set fp (.cells ((P' p i).l mp) 88)++[.cells x.l 76,.cells (t.map iv) 86]) (λi=>bJ (P' p i)) (λ_ _=>rfl) (by simp only[seval];simp[bu,Wk.refl]) rfl (λ_ _ _=>by simp) ajC (λQT atn q Ac nG R' QY=> ?_);refine ak ?_;refine aD ?_;refine⟨λh=> ?_,λh=> ?_⟩
     ·have mj:q<x.pieces.length:=(by omega);obtain⟨o2,Sd,atB,_⟩:=ht.num q mj;have b4q:(0<=(q:Int)/\(q:Int)<4)=True:=(by simp;omega);have tJ:SD.wrap ((q:Int)+1)=((q+1:Nat):Int):=(by rw[bA _ (by omega)];rfl);have cQ:P' p (q+1)={P' p q with less:=if o<o2 then oU (P' p q).less p q else(P' p q).less}:=by
       rw[Fs,Fs,wF];simp only[SE,ho,Sd,S7];by_cases hlt:o<o2
       ·rw[if_pos (by omega),if_pos hlt]
       ·rw[if_neg (by omega),if_neg hlt]
      refine aN ?_;refine ak ?_;refine eO 8 ?_;simp only[seval,dP,b4,b4q,kX ho,kX Sd];refine aD ?_;refine⟨λh=> ?_,λh=> ?_⟩
      ·have hlt:o<o2:=(by simpa using h);rw[if_pos hlt]at cQ;obtain⟨v,hv⟩:=b9 (xs:=(P' p q).less) (i:=p) (by have:=nG.less;omega);have Gb:v<65536:=nG.mR v (Tc hv);have akX:=Kn.Mp nG (mp:=mp) hv;have ak1:=Kn.aaL nG (mp:=mp) (p:=p) (v:=v|||2^q) (eR hv);have ak0:=Kn.len nG mp;rw[EB hv]at cQ;refine eO 12 ?_;simp only[seval,vq lN,vr lN,b4,akX];refine iw (wv (v|||2^q)) (cx (uu Gb (show q<16 by omega) ⟨rfl,rfl⟩)) ?_;(try simp only[seval,vq lN,vr lN,b4,ak0]);refine⟨by omega,?_⟩;rw[ak1,<- cQ];refine ai ?_;simp only[seval,tJ];refine QY _ ⟨mj,?_,?_⟩
       ·rw[cQ];exact nG.aco (pI Gb (wR (by omega)))
       ·exact da
      ·have hlt:¬o<o2:=(by simpa using h);rw[if_neg hlt]at cQ;refine aN ?_;refine ai ?_;simp only[seval,tJ];rw[show ({P' p q with less:=(P' p q).less}:Kn)=P' p q from rfl]at cQ;refine QY _ ⟨mj,?_,?_⟩
       ·rw[cQ];exact nG
       ·rw[cQ];exact da
     ·have hqe:q=x.pieces.length:=(by omega);subst hqe;rw[hPs]at nG⊢;refine bX ?_;refine ai ?_;simp only[seval,bM];exact hR _ ⟨dG,nG,da⟩
    ·have eB:p=x.pieces.length:=(by omega);subst eB;have:=dY _ R1.aK [.cells x.l 76,.cells (t.map iv) 86] rfl rfl;rw[<- hP,F6 (P _) (by rw[hP])]at this;refine bX ?_;exact this
end
open Go.Conc Go.Proofs Go.Gg.Tk
namespace Tk
def gW (F:Kn)(hs:List (List Int))(G:Kn):Kn:=if G.has then⟨true,hs.foldl jM F.aK,lX F.aA G.aA,lX F.hours G.hours,lX F.less G.less,lX F.aU G.aU,if F.has=false\/sM G.first F.first then G.first else F.first⟩else F
def nR (l m:List Nat):Nat->List Nat
 |0=>l
 |i+1=>(nR l m i).set i ((nR l m i).getD i 0|||m.getD i 0)
end Tk
theorem GY{l m:List Nat}{i a b:Nat}(ha:(nR l m i)[i]?=some a)(hb:m[i]?=some b):nR l m (i+1)=(nR l m i).set i (a|||b):=by
 rw[nR,SE,SE,ha,hb];rfl
theorem anX{l m:List Nat}(h:l.length=m.length){i:Nat}(hi:i<=l.length):nR l m i=lX (l.take i) (m.take i)++l.drop i:=by
 induction i with
 |zero=>simp[nR,lX]
 |succ i ih=>
  have hl:i<l.length:=by omega
  have hm:i<m.length:=by omega
  have e1:(lX (l.take i) (m.take i)).length=i:=by simp[lX];omega
  have e2:(nR l m i).getD i 0=l[i]:=by
   rw[ih (by omega),SE,S9 (by omega),e1];simp[hl]
  rw[nR,e2,ih (by omega),T9 _ _ (by omega),e1,Vf,SE,SY hm,S7,TQ hl,TZ,VL,VL,SY hl,SY hm,Xd,Xd];unfold lX;rw[List.zipWith_append (by simp;omega)];simp
theorem GX{l m:List Nat}(h:l.length=m.length){n:Nat}(hn:l.length=n):nR l m n=lX l m:=by
 subst hn;rw[anX h (SQ _),h,TG,TV (by omega),SO,<- h,TG]
theorem ahF{lv:Bool}{H:List aa}{k kp:AV->List aa->Prop}{fp mp mg:Nat}{Q G:Kn}(hQ:bJ Q)(hG:bJ G)(mf:fp≠mp)(wj:mg≠mp)(hf:H[fp]?=some (.cells (Q.l mp) 88))(hm:H[mp]?=some (setH Q.aK))(hg:H[mg]?=some (setH G.aK))(wu:G.aK.Nodup)(hk:∀hs:List (List Int),hs.Perm G.aK->k (.aL []) ((H.set fp (.cells ((gW Q hs G).l mp) 88)).set mp (setH (gW Q hs G).aK))):bh lv SA 102 H [.op fp 0,.agg (G.l mg)] k kp:=by
 refine bF (rs:=[]) (nt:=121) Tryz.f102 λhH hA=> ?_;simp only[bk,SV];have lh:=eR hf;have ws:=eR hm;have kH:=eR hg;have FI:=Kn.len hG mg;have F3:=Kn.len hQ mp;have th:(G.l mg).drop 17=G.first.map iv:=by
  have e:G.l mg=(bv G.has:: .mp mg::(G.aA.map (λn=>wv n)++(G.hours.map (λn=>wv n)++(G.less.map (λn=>wv n)++G.aU.map (λn=>wv n)))))++G.first.map iv:=by simp[Kn.l]
  rw[e,Wq (by simp[hG.aA,hG.hours,hG.less,hG.aU]),TV (by simp[hG.aA,hG.hours,hG.less,hG.aU])];rfl
 refine ak ?_;refine ai ?_;simp only[seval,Kn.B7];refine aD ?_;refine⟨λh=> ?_,λh=> ?_⟩
 ·
  have Ky:G.has=false:=by simpa using h
  have:=hk G.aK (ab_ _);rw[gW,Ky]at this;simp only[TN,if_false]at this;rw[qH hf,qH hm]at this;refine aZ ?_;exact iM hH (Wk.refl _) (by simp[jL]) this
 ·have Ky:G.has=true:=by simpa using h
  refine aN ?_;obtain⟨R1,qa⟩:∃R1,R1=(if Q.has=false\/sM G.first Q.first=true then{Q with first:=G.first}else Q):=⟨_,rfl⟩;have nv:bJ R1:=by
   rw[qa];split
   ·exact⟨hQ.aA,hQ.hours,hQ.less,hQ.aU,hG.first,hQ.mv,hQ.mK,hQ.mR,hQ.lY,hQ.h4⟩
   ·exact hQ
  have Cf:R1.aK=Q.aK:=by rw[qa];split<;>rfl
  obtain⟨H1,lI⟩:∃H1,H1=H.set fp (.cells (R1.l mp) 88):=⟨_,rfl⟩;have aT:∀(L:List aa),(H++L)[H.length]?=L[0]?:=λL=>aX H L 0;have db:∀(z:aa)(L:List aa),(H.set fp z++L)[H.length]?=L[0]?:=λz L=>by have:=aX (H.set fp z) L 0;rwa [TF]at this
  have kg:=hG.first;have Ak:Ui 11 (G.first.map iv)=G.first.map iv:=SX (by rw[Tn];omega);have Hg:Ui 17 (Q.l mp)++G.first.map iv++T7 28 (Q.l mp)=({Q with first:=G.first}:Kn).l mp:=Kn.ack hQ kg;have Su:(Q.l mp).drop 17=Q.first.map iv:=by
   have e:Q.l mp=(bv Q.has:: .mp mp::(Q.aA.map (λn=>wv n)++(Q.hours.map (λn=>wv n)++(Q.less.map (λn=>wv n)++Q.aU.map (λn=>wv n)))))++Q.first.map iv:=(by simp[Kn.l]);rw[e,Wq (by simp[hQ.aA,hQ.hours,hQ.less,hQ.aU]),TV (by simp[hQ.aA,hQ.hours,hQ.less,hQ.aU])];rfl
  have aag:Ui 11 (Q.first.map iv)=Q.first.map iv:=SX (by rw[Tn,hQ.first];exact SQ _);have cU:H1.length=H.length:=by rw[lI,TF]
  cases F2:Q.has
  case' true=>
   refine eO 12 ?_;simp only[seval,fO hf,Kn.B7,F2,aT,th,Su,FI,F3,Ak,aag];refine⟨by omega,by have:=hQ.first;omega,?_⟩;refine aI ((ahM hG.first hQ.first ?_));(try simp only[seval]);refine aD ?_;refine⟨λhb=> ?tt,λhb=> ?tf⟩
  case' false=>
   refine eO 12 ?_;simp only[seval,fO hf,Kn.B7,F2,aT,th,Su,FI,F3,Ak,aag];refine aD ?_
  case' tt=>
   have e1:R1={Q with first:=G.first}:=(by rw[qa,if_pos (.inr hb)]);refine ai ?_;simp only[seval,fO hf,aT,th,FI,F3,Ak,kg,vt lh];rw[Hg,<- e1,<- lI,<- cU]
  case' tf=>
   have e1:R1=Q:=(by rw[qa,if_neg (by rw[F2,hb];simp)]);have I3:H1=H:=(by rw[lI,e1];exact qH hf);refine aN ?_;rw[<- I3]
  case' false=>
   have e1:R1={Q with first:=G.first}:=(by rw[qa,if_pos (.inl F2)]);refine ai ?_;simp only[seval,fO hf,aT,th,FI,F3,Ak,kg,vt lh];rw[Hg,<- e1,<- lI,<- cU]
  all_goals
   clear e1;have lN:fp<H1.length:=(by omega);have xB:H1[fp]?=some (.cells (R1.l mp) 88):=(by rw[lI,UQ,if_pos rfl,if_pos lh]);have Fi:H1[mp]?=some (setH R1.aK):=(by rw[lI,T6 mf,Cf];exact hm);have Ry:fp≠mg:=λe=>(by subst e;rw[hf]at hg;cases hg);have h1g:H1[mg]?=some (setH G.aK):=(by rw[lI,T6 Ry];exact hg);obtain⟨R2,ru⟩:∃R2,R2=({R1 with has:=true}:Kn):=⟨_,rfl⟩;have eL:AV.val (.bool true)::T7 1 (R1.l mp)=R2.l mp:=(by rw[ru];rfl);have JW:R2.aK=Q.aK:=(by rw[ru];exact Cf);have uz:bJ R2:=(by rw[ru];exact⟨nv.aA,nv.hours,nv.less,nv.aU,nv.first,nv.mv,nv.mK,nv.mR,nv.lY,nv.h4⟩);refine ai ?_;simp only[seval,fO xB,vt lN,Kn.aqj];refine⟨by have:=Kn.len nv mp;omega,?_⟩;rw[eL];obtain⟨B,hB⟩:∃B:Kn->List (List Int)->List aa,∀K hs,B K hs=(H1.set fp (.cells (K.l mp) 88)).set mp (setH hs):=⟨_,λ_ _=>rfl⟩;have fP:∀K hs,(B K hs).length=H1.length:=λK hs=>(by rw[hB,TF,TF]);have QM:∀K hs (L:List aa),(B K hs++L)[mp]?=some (.obj (.map (hs.zipIdx.map ew).toArray hs.length)):=λK hs L=>by
    rw[SW (by rw[fP];omega),hB,UQ,if_pos rfl,if_pos (by rw[TF];omega)];rfl
   have Fl:∀K hs (L:List aa),(B K hs++L)[mg]?=some (.obj (.map (G.aK.zipIdx.map ew).toArray G.aK.length)):=λK hs L=>by
    rw[SW (by rw[fP];omega),hB,T6 (λe=>wj e.symm),T6 Ry,h1g];rfl
   have oh:∀K hs (L:List aa),(B K hs++L)[fp]?=some (.cells (K.l mp) 88):=λK hs L=>by
    rw[SW (by rw[fP];omega),hB,T6 (λe=>mf e.symm),UQ,if_pos rfl,if_pos (by omega)]
   have ajA:∀K hs pw (L:List aa),(B K hs++L).set mp (setH pw)=B K pw++L:=λK hs pw L=>by
    rw[US _ _ (by rw[fP];omega),hB,hB,W6]
   have Fo:∀K hs K' (L:List aa),(B K hs++L).set fp (.cells (K'.l mp) 88)=B K' hs++L:=λK hs K' L=>by
    rw[US _ _ (by rw[fP];omega),hB,hB,List.set_comm _ _ (λe=>mf e.symm),W6]
   have QN:H1.set fp (.cells (R2.l mp) 88)=B R2 R2.aK:=by
    rw[hB];symm;exact qH (by rw[T6 mf,Fi,JW,Cf])
   have aT:∀K hs (L:List aa),(B K hs++L)[H1.length]?=L[0]?:=λK hs L=>(by rw[<- fP K hs];exact aX _ L 0);have du:∀K hs (L:List aa),(B K hs++L)[H1.length+1]?=L[1]?:=λK hs L=>(by rw[<- fP K hs];exact aX _ L 1);have lf:∀K hs (L:List aa),(B K hs++L)[H1.length+2]?=L[2]?:=λK hs L=>(by rw[<- fP K hs];exact aX _ L 2);have Kv:(G.l mg).drop 1=.mp mg::((G.l mg).drop 2):=rfl;have QV:∀K:Kn,(K.l mp).drop 1=.mp mp::((K.l mp).drop 2):=λ_=>rfl;have cG:∀(K:Kn)(hs:List (List Int)),bI (B K hs):=λK hs=>by
    intro z hz;rw[fP];rw[hB]at hz;rcases UC hz with hz|rfl
    ·rcases UC hz with hz|rfl
     ·rw[lI]at hz;rcases UC hz with hz|rfl
      ·exact cU▸hH z hz
      ·intro a ha;simp only[Kn.l,SK,SR,Tl]at ha;rcases ha with rfl|rfl|⟨_,_,rfl⟩|⟨_,_,rfl⟩|⟨_,_,rfl⟩|⟨_,_,rfl⟩|⟨_,_,rfl⟩
       ·exact .val _
       ·exact .mp (by omega)
       all_goals exact .val _
     ·intro a ha;simp only[Kn.l,SK,SR,Tl]at ha;rcases ha with rfl|rfl|⟨_,_,rfl⟩|⟨_,_,rfl⟩|⟨_,_,rfl⟩|⟨_,_,rfl⟩|⟨_,_,rfl⟩
      ·exact .val _
      ·exact .mp (by omega)
      all_goals exact .val _
    ·trivial
   have dY:∀(hs:List (List Int))(K:Kn)(L:List aa),hs.Perm G.aK->gW Q hs G=K->cF H1.length (B K K.aK++L) (.aL []) k:=λhs K L hp hK=>by
    have:=hk hs hp;rw[hK]at this;subst hK;refine jy (Wk.refl _) rfl (by rw[fP];exact SQ _) (cG _ _) (by simp[jL]) ?_;rw[hB,lI,W6];exact this
   rw[QN];clear hk QN;refine ai ?_;simp only[seval,aT,Kv,Fl];rw[fP];have Rg:∀K hs (L:List aa) z,(B K hs++L).set (H1.length+1) z=B K hs++L.set 1 z:=λK hs L z=>by
    rw[T9 _ _ (by rw[fP];omega),fP,TR]
   have ajO:∀K hs (L:List aa) z,(B K hs++L).set (H1.length+2) z=B K hs++L.set 2 z:=λK hs L z=>by
    rw[T9 _ _ (by rw[fP];omega),fP,TR]
   obtain⟨ts,dW⟩:∃ts,ts=G.aK.zipIdx:=⟨_,rfl⟩;obtain⟨ck,FE⟩:∃ck,ck=G.aK.length:=⟨_,rfl⟩;rw[<- dW,<- FE]at Fl;rw[<- FE];have hb:∀y∈ts,y.2<ck:=λy hy=>(by rw[dW]at hy;have:=List.snd_lt_add_of_mem_zipIdx hy;omega);have CI:(ts.map (·.2)).Nodup:=(by rw[dW,show (λy:List Int×Nat=>y.2)=Prod.snd from rfl,List.zipIdx_map_snd];exact List.nodup_range');have h4:∀y∈ts,y.1.length=4:=λy hy=>(by rw[dW]at hy;exact hG.h4 _ (Eb hy));have fD:=O5 ts ck hb;have LF:ts.map (·.1)=G.aK:=(by rw[dW,show (λy:List Int×Nat=>y.1)=Prod.fst from rfl,List.zipIdx_map_fst]);clear dW;obtain⟨ac,Fw⟩:∃ac:List (List Int×Nat)->List (List Int),∀vs,ac vs=vs.foldl (λa y=>jM a y.1) R2.aK:=⟨_,λ_=>rfl⟩;have Q_:ac []=R2.aK:=(by rw[Fw];rfl);have JX:∀vs y,ac (vs++[y])=jM (ac vs) y.1:=λvs y=>(by rw[Fw,Fw,ZM];rfl);obtain⟨i3,qi,py⟩:=F.i3;refine cq ?_;refine za (measure λvs:List (List Int×Nat)=>ts.length-vs.length).wf (λvs=>[]) (λvs=>B R2 (ac vs)++[.cells (G.l mg) 88,.iter mg ck (vs.map (·.2)).toArray ck]) (λvs=>(vs.map (·.2)).Nodup/\(∀y∈vs,y∈ts)/\∀h∈ac vs,h.length=4) [] (λ_ _=>rfl) (by simp) (by rw[Q_];rfl) (λ_ _=>by simp[fP]) ⟨by simp,by simp,by rw[Q_,JW];exact hQ.h4⟩ (λbQ cP vs au R hR=> ?_);refine ai ?_;simp only[seval,du,Fl,Rg];refine⟨fD.elim .inl (λh=> .inr (.inl h)),λe he hn=> ?_,λhs=> ?_⟩
   ·obtain⟨y,hy,rfl⟩:∃y∈ts,ew y=e:=(by simpa using he);refine aD ?_;refine aN ?_;refine cq ?_;have sW:=h4 y hy;have J9:(ew y).born=y.2:=rfl;have hlen:(y.1.map iv).length=4:=(by simp[sW]);have Ki:T7 4 [AV.val (SF SD 0),AV.val (SF SD 0),AV.val (SF SD 0),AV.val (SF SD 0)]=[]:=rfl;refine ai ?_;simp only[seval,du,Fl,Rg,ajO,lf,fP,Array.back?_push,J9,Qf CI hy,abo,sW,hlen,Ki];refine eO 10 ?_;simp only[seval,oh,QV,QM,lf,hlen,sW];have aaf:Ui 4 (y.1.map iv)=y.1.map iv:=SX (by omega);have JG:∀z∈(ac vs).zipIdx,z.1.length=4:=λz hz=>au.2.2 _ (Eb hz);have FH:=acY (ts:=(ac vs).zipIdx) F.D6 F.u3 qi py sW JG;have FD:=λb=>acU (b:=b) (k:=.i64) (d:=9998) F.D6 F.u3 qi py sW;have F1:((vs.map (·.2)).toArray.push y.2)=((vs++[y]).map (·.2)).toArray:=(by simp);have LN:y.2∉vs.map (·.2):=(by simpa[ew]using hn);have tw:((vs++[y]).map (·.2)).Nodup/\(∀z∈vs++[y],z∈ts)/\∀h∈ac (vs++[y]),h.length=4:=by
     refine⟨?_,λz hz=> ?_,λh hh=> ?_⟩
     ·rw[TD,U7];refine⟨au.1,by simp,λa ha b hb=> ?_⟩;simp at hb;subst hb;intro e;subst e;exact LN ha
     ·rcases SR.1 hz with h|h
      ·exact au.2.1 z h
      ·rw[S8.1 h];exact hy
     ·rw[JX,jM]at hh;split at hh
      ·exact au.2.2 _ hh
      ·rcases SR.1 hh with h'|h'
       ·exact au.2.2 _ h'
       ·rw[S8.1 h'];exact sW
    have hlen:vs.length<ts.length:=by
     have h1:(vs++[y]).Nodup:=Dp _ tw.1;have:=h1.length_le_of_subset tw.2.1;simp at this;omega
    have rL:ts.length-(vs++[y]).length<ts.length-vs.length:=(by simp;omega);have FX:∀sn,bI (B R2 (ac (vs++[y]))++[aa.cells (G.l mg) 88,aa.iter mg ck sn ck]):=λsn z hz=>by
     rcases SR.1 hz with h|h
     ·exact(cG _ _ z h).mono (by simp)
     ·have JM:∀a∈G.l mg,Lt H1.length a:=λa ha=>by
       simp only[Kn.l,SK,SR,Tl]at ha;rcases ha with rfl|rfl|⟨_,_,rfl⟩|⟨_,_,rfl⟩|⟨_,_,rfl⟩|⟨_,_,rfl⟩|⟨_,_,rfl⟩
       ·exact .val _
       ·exact .mp (by omega)
       all_goals exact .val _
      simp only[SK,S0,or_false]at h;rcases h with rfl|rfl
      ·intro a ha;exact(JM a ha).mono (by simp[fP])
      ·show mg<_;simp[fP];omega
    rw[aaf];refine d_ F.Oj (d_ (yy _) ⟨FD _,_,FH,?_⟩);rcases Jp (x:=y.1) (hs:=ac vs)with⟨h,CJ⟩|⟨i',b,h,h2,CJ⟩
    ·rw[h];(try simp only[seval,AV.found]);refine ak ?_;refine aD ?_;refine eO 5 ?_;simp only[seval,oh,QV,QM,lf,hlen,sW];rw[aaf];refine d_ (yy _) (d_ rfl ⟨FD _,_,FH,?_,?_⟩)
     ·intro i v pk;rw[h]at pk;cases pk
     ·rw[h,abO,<- acl,ajA,show ac vs++[y.1]=ac (vs++[y]) by rw[JX,jM,if_neg CJ],F1];refine hR _ ⟨vs++[y],rL,tw,?_⟩;exact AL (pE rfl rfl) (by simp only[seval]<;>simp[bu,Wk.refl]) (FX _) (by simp[eK])
    ·rw[h];(try simp only[seval,AV.found]);refine ak ?_;refine aD ?_;refine aN ?_;rw[show ac vs=ac (vs++[y]) by rw[JX,jM,if_pos CJ],F1];refine hR _ ⟨vs++[y],rL,tw,?_⟩;exact AL (pE rfl rfl) (by simp only[seval]<;>simp[bu,Wk.refl]) (FX _) (by simp[eK])
   ·have hp:vs.Perm ts:=ab8 au.1 CI au.2.1 λy hy=>by
     have:=hs (ew y) (by simp;exact⟨y.1,y.2,hy,rfl⟩) (hb y hy);simpa[ew]using this
    refine aD ?_;refine bX ?_;obtain⟨K,hK⟩:∃K:Nat->Nat->Kn,∀i j,K i j={R2 with aA:=nR R2.aA G.aA i,hours:=nR R2.hours G.hours i,less:=nR R2.less G.less i,aU:=nR R2.aU G.aU j}:=⟨_,λ_ _=>rfl⟩;have QU:K 0 0=R2:=(by rw[hK];rfl);refine ak ?_;refine cq ?_;refine gD 4 (λi:Nat=>[(57,iv i)]) (λi=>B (K i 0) (ac vs)++[.cells (G.l mg) 88,.iter mg ck (vs.map (·.2)).toArray ck]) (λi=>bJ (K i 0)) (λ_ _=>rfl) (by simp only[seval];simp[bu,Wk.refl]) (by rw[QU]) (λ_ _ _=>by simp[fP]) (by rw[QU];exact uz) (λatk ato i cK uQ R hR=> ?_);refine ak ?_;refine aD ?_;refine⟨λh=> ?_,λh=> ?_⟩
    ·have bB:i<4:=(by omega);obtain⟨a1,rz⟩:=b9 (xs:=(K i 0).aA) (i:=i) (by have:=uQ.aA;omega);obtain⟨a2,Ch⟩:=b9 (xs:=(K i 0).hours) (i:=i) (by have:=uQ.hours;omega);obtain⟨a3,Fv⟩:=b9 (xs:=(K i 0).less) (i:=i) (by have:=uQ.less;omega);obtain⟨c1,dn⟩:=b9 (xs:=G.aA) (i:=i) (by have:=hG.aA;omega);obtain⟨c2,ce⟩:=b9 (xs:=G.hours) (i:=i) (by have:=hG.hours;omega);obtain⟨c3,dE⟩:=b9 (xs:=G.less) (i:=i) (by have:=hG.less;omega);have Db:=uQ.mv _ (Tc rz);have la2:=uQ.mK _ (Tc Ch);have la3:=uQ.mR _ (Tc Fv);have Dd:=hG.mv _ (Tc dn);have lc2:=hG.mK _ (Tc ce);have lc3:=hG.mR _ (Tc dE);have b4:(0<=(i:Int)/\(i:Int)<4)=True:=(by simp;omega);have bM:SD.wrap ((i:Int)+1)=((i+1:Nat):Int):=(by rw[bA _ (by omega)];rfl);refine aN ?_;refine ak ?_;obtain⟨Ka,Ce⟩:∃Ka,Ka=({K i 0 with aA:=(K i 0).aA.set i (a1|||c1)}:Kn):=⟨_,rfl⟩;have GP:bJ Ka:=(by rw[Ce];exact uQ.acp (pI Db Dd));have sa:=Kn.abm (F:=K i 0) (mp:=mp) (p:=i) (v:=a1|||c1) (eR rz);rw[<- Ce]at sa;refine eO 13 ?_;simp only[seval,oh,aT,b4,Kn.GN rz,Kn.GN dn,Bz,GZ Db Dd,Kn.len uQ mp];refine⟨by omega,?_⟩;rw[sa,Fo];obtain⟨Kb,Fp⟩:∃Kb,Kb=({Ka with hours:=Ka.hours.set i (a2|||c2)}:Kn):=⟨_,rfl⟩;have GQ:bJ Kb:=(by rw[Fp];exact GP.acn (pI la2 lc2));have xJ:Ka.hours[i]?=some a2:=(by rw[Ce];exact Ch);have sb:=Kn.Sj GP (mp:=mp) (p:=i) (v:=a2|||c2) (eR xJ);rw[<- Fp]at sb;refine eO 13 ?_;simp only[seval,oh,aT,b4,Kn.K_ GP xJ,Kn.K_ hG ce,Bz,GZ la2 lc2,Kn.len GP mp];refine⟨by omega,?_⟩;rw[sb,Fo];have Fz:Kb.less[i]?=some a3:=(by rw[Fp,Ce];exact Fv);have sc:=Kn.aaL GQ (mp:=mp) (p:=i) (v:=a3|||c3) (eR Fz);have xE:({Kb with less:=Kb.less.set i (a3|||c3)}:Kn)=K (i+1) 0:=by
      rw[Fp,Ce,hK (i+1)];simp only[hK]at rz Ch Fv⊢;rw[GY rz dn,GY Ch ce,GY Fv dE]
     have MN:bJ (K (i+1) 0):=(by rw[<- xE];exact GQ.aco (pI la3 lc3));rw[xE]at sc;refine eO 13 ?_;simp only[seval,oh,aT,b4,Kn.Mp GQ Fz,Kn.Mp hG dE,Bz,GZ la3 lc3,Kn.len GQ mp];refine⟨by omega,?_⟩;rw[sc,Fo];refine ai ?_;simp only[seval,bM];exact hR _ ⟨bB,MN,da⟩
    ·have dx:i=4:=(by omega);subst dx;refine bX ?_;refine ak ?_;refine cq ?_;refine gD 3 (λi:Nat=>[(103,iv i)]) (λj=>B (K 4 j) (ac vs)++[.cells (G.l mg) 88,.iter mg ck (vs.map (·.2)).toArray ck]) (λj=>bJ (K 4 j)) (λ_ _=>rfl) (by simp only[seval];simp[bu,Wk.refl]) rfl (λ_ _ _=>by simp[fP]) uQ (λatl atp j oz z8 R hR=> ?_);refine ak ?_;refine aD ?_;refine⟨λh=> ?_,λh=> ?_⟩
     ·have eU:j<3:=(by omega);obtain⟨a1,rz⟩:=b9 (xs:=(K 4 j).aU) (i:=j) (by have:=z8.aU;omega);obtain⟨c1,dn⟩:=b9 (xs:=G.aU) (i:=j) (by have:=hG.aU;omega);have Db:=z8.lY _ (Tc rz);have Dd:=hG.lY _ (Tc dn);have b3:(0<=(j:Int)/\(j:Int)<3)=True:=(by simp;omega);have bM:SD.wrap ((j:Int)+1)=((j+1:Nat):Int):=(by rw[bA _ (by omega)];rfl);refine aN ?_;refine ak ?_;have sa:=Kn.abH z8 (mp:=mp) (p:=j) (v:=a1|||c1) (eR rz);have xE:({K 4 j with aU:=(K 4 j).aU.set j (a1|||c1)}:Kn)=K 4 (j+1):=by
       rw[hK 4 (j+1)];simp only[hK]at rz⊢;rw[GY rz dn]
      have MN:bJ (K 4 (j+1)):=(by rw[<- xE];exact z8.DN (pI Db Dd));rw[xE]at sa;refine eO 13 ?_;simp only[seval,oh,aT,b3,Kn.DC z8 rz,Kn.DC hG dn,Bz,GZ Db Dd,Kn.len z8 mp];refine⟨by omega,?_⟩;rw[sa,Fo];refine ai ?_;simp only[seval,bM];exact hR _ ⟨eU,MN,da⟩
     ·have KM:j=3:=(by omega);subst KM;refine bX ?_;have Ld:(vs.map (·.1)).Perm G.aK:=by
       have:=hp.map (·.1);rw[LF]at this;exact this
      have ajF:ac vs=(vs.map (·.1)).foldl jM Q.aK:=(by rw[Fw,JW,List.foldl_map]);have hJ:gW Q (vs.map (·.1)) G={K 4 3 with aK:=ac vs}:=by
       have e2:R2=⟨true,Q.aK,Q.aA,Q.hours,Q.less,Q.aU,if Q.has=false\/sM G.first Q.first=true then G.first else Q.first⟩:=by
        rw[ru,qa];split<;>rfl
       rw[gW,if_pos Ky,hK,GX (by rw[uz.aA,hG.aA]) uz.aA,GX (by rw[uz.hours,hG.hours]) uz.hours,GX (by rw[uz.less,hG.less]) uz.less,GX (by rw[uz.aU,hG.aU]) uz.aU,ajF,e2]
      have:=dY (vs.map (·.1)) _ [.cells (G.l mg) 88,.iter mg ck (vs.map (·.2)).toArray ck] Ld hJ;rw[show B ({K 4 3 with aK:=ac vs}:Kn) (ac vs)=B (K 4 3) (ac vs) by rw[hB,hB];rfl]at this;exact this
open Go.Conc Go.Proofs Go.Gg.Tk
namespace Tk
theorem BD{l:List Nat}{i v:Nat}:(oU l i v).length=l.length:=by simp[oU]
theorem EC{l:List Nat}{i v:Nat}(h:∀n∈l,n<65536)(hv:v<16):∀n∈oU l i v,n<65536:=by
 refine Dk h (pI ?_ (wR hv));rw[SE];cases hi:l[i]?with
 |none=>exact(by decide:0<65536)
 |some a=>exact h _ (Tc hi)
theorem arf{x:aj}{t:List Int}(ht:ju x t){p:Nat}(hp:p<x.pieces.length):mz t p<16:=by
 obtain⟨n,h1,h2,_⟩:=ht.num p hp;unfold mz;rw[SE,h1];show n<16;omega
theorem are{t:List Int}(h:t.length=11){p:Nat}:DY t p<16:=by
 unfold DY;have h5:jo (t.take 4) (t.getD (4+p) 0+t.getD 0 0)<0+(t.take 4).length:=ade;have:(t.take 4).length=4:=by simp[h]
 omega
theorem arh{x:aj}{t:List Int}(ht:ju x t){s:Nat}(hs:s<x.aB.length):sg t s<16:=by
 obtain⟨n,h1,h2⟩:=ht.own s hs;unfold sg;rw[SE,h1];show n<16;omega
theorem abG{x:aj}{t:List Int}(ht:ju x t){l:List Nat}(hl:∀n∈l,n<65536):∀{s:Nat},s<=x.aB.length->(mT t s l).length=l.length/\∀n∈mT t s l,n<65536
 |0,_=>⟨rfl,hl⟩
 |s+1,h=>by
  obtain⟨h1,h2⟩:=abG ht hl (s:=s) (by omega);exact⟨BD.trans h1,EC h2 (arh ht (by omega))⟩
theorem abi{x:aj}{t:List Int}(ht:ju x t){l:List Nat}(hl:∀n∈l,n<65536):∀{s:Nat},s<=x.pieces.length->(rW t s l).length=l.length/\∀n∈rW t s l,n<65536
 |0,_=>⟨rfl,hl⟩
 |s+1,h=>by
  obtain⟨h1,h2⟩:=abi ht hl (s:=s) (by omega);exact⟨BD.trans h1,EC h2 (arf ht (by omega))⟩
theorem Si{t:List Int}(ht:t.length=11){l:List Nat}(hl:∀n∈l,n<65536):∀{s:Nat},(wx t s l).length=l.length/\∀n∈wx t s l,n<65536
 |0=>⟨rfl,hl⟩
 |s+1=>by
  obtain⟨h1,h2⟩:=Si ht hl (s:=s);exact⟨BD.trans h1,EC h2 (are ht)⟩
theorem aaK{t:List Int}{p:Nat}{l:List Nat}(hl:∀n∈l,n<65536):∀{q:Nat},q<=4->(wF t p q l).length=l.length/\∀n∈wF t p q l,n<65536
 |0,_=>⟨rfl,hl⟩
 |q+1,h=>by
  obtain⟨h1,h2⟩:=aaK hl (q:=q) (t:=t) (p:=p) (by omega);unfold wF;split
  ·exact⟨BD.trans h1,EC h2 (by omega)⟩
  ·exact⟨h1,h2⟩
theorem aaJ{t:List Int}{k:Nat}(hk:k<=4){l:List Nat}(hl:∀n∈l,n<65536):∀{p:Nat},(ym t k p l).length=l.length/\∀n∈ym t k p l,n<65536
 |0=>⟨rfl,hl⟩
 |p+1=>by
  obtain⟨h1,h2⟩:=aaJ hk hl (p:=p) (t:=t);obtain⟨h3,h4⟩:=aaK h2 (t:=t) (p:=p) hk;exact⟨h3.trans h1,h4⟩
theorem abL{hs:List (List Int)}{h:List Int}(h1:∀y∈hs,y.length=4)(h2:h.length=4):∀y∈jM hs h,y.length=4:=λy hy=>by
 unfold jM at hy;split at hy
 ·exact h1 y hy
 ·rcases SR.1 hy with h'|h'
  ·exact h1 y h'
  ·rw[S8.1 h'];exact h2
theorem NH{x:aj}{deep:Int}{Q:Kn}{t:List Int}(hx:x.Ok)(ht:ju x t)(hQ:bJ Q):bJ (eE x deep Q t):=by
 have hB:=OY hQ ht.len;unfold eE;dsimp only;generalize jV Q t=R at hB;split
 ·obtain⟨h1,h2⟩:=abG ht hB.lY (SQ _);exact⟨hB.aA,hB.hours,hB.less,h1.trans hB.aU,hB.first,hB.mv,hB.mK,hB.mR,h2,hB.h4⟩
 ·split
  ·exact⟨hB.aA,hB.hours,hB.less,hB.aU,hB.first,hB.mv,hB.mK,hB.mR,hB.lY,abL hB.h4 (by simp[ht.len])⟩
  ·obtain⟨h1,h2⟩:=abi ht hB.mv (SQ _);obtain⟨h3,h4⟩:=Si ht.len hB.mK (s:=x.pieces.length);obtain⟨h5,h6⟩:=aaJ (t:=t) hx.eD hB.mR (p:=x.pieces.length);exact⟨h1.trans hB.aA,h3.trans hB.hours,h5.trans hB.less,hB.aU,hB.first,h2,h4,h6,hB.lY,hB.h4⟩
theorem NO{x:aj}{deep:Int}{h t:List Int}(ht:t∈iI x deep h):∃ns∈fY x h,t∈(iu x h ns).map (dA h ns):=by
 have key:t∈((fY x h).map λns=>(iu x h ns).map λos=>dA h ns os).flatten:=by
  unfold iI at ht;dsimp only at ht;split at ht
  ·exact Wt ht
  ·split at ht
   ·obtain⟨l,h1,h2⟩:=XI.1 ht;obtain⟨m,h3,rfl⟩:=Tl.1 h1;exact XI.2 ⟨m,h3,Wt h2⟩
   ·exact ht
 obtain⟨l,h1,h2⟩:=XI.1 key;obtain⟨ns,h3,rfl⟩:=Tl.1 h1;exact⟨ns,h3,h2⟩
theorem Da:bJ Kn.zero:=by
 have h0:∀k:Nat,∀n∈TH k 0,n<65536:=λk n h=>by rw[(Xw.1 h).2];decide
 exact⟨rfl,rfl,rfl,rfl,rfl,h0 4,h0 4,h0 4,h0 3,λh hh=>by cases hh⟩
theorem Jz{x:aj}{deep:Int}(hx:x.Ok):∀{ts:List (List Int)}{Q:Kn},(∀t∈ts,ju x t)->bJ Q->bJ (ts.foldl (eE x deep) Q)
 |[],Q,_,h=>h
 |t::ts,Q,ht,h=>by rw[UZ];exact Jz hx (λu hu=>ht u (by simp[hu])) (NH hx (ht t (by simp)) h)
end Tk
theorem yi{K:Kn}{mp m:Nat}(h:mp<m):∀a∈K.l mp,Lt m a:=λa ha=>by
 simp only[Kn.l,SK,SR,Tl]at ha;rcases ha with rfl|rfl|⟨_,_,rfl⟩|⟨_,_,rfl⟩|⟨_,_,rfl⟩|⟨_,_,rfl⟩|⟨_,_,rfl⟩
 ·exact .val _
 ·exact .mp h
 all_goals exact .val _
theorem Gs{K:Kn}{mp m:Nat}(h:∀a∈K.l mp,Lt m a):mp<m:=by
 cases h (.mp mp) (by simp[Kn.l]);assumption
def cs:T4->T4
 |.seq _ c=>c
 |_=> .skip
def cf:T4->T4
 |.seq c _=>c
 |_=> .skip
noncomputable def aay:T4:=asg.body.getD .skip
def u9 (x:aj)(bi:Nat)(deep:Int)(c:Nat)(w:SP):List (Nat×AV):=[(12,.fn (.func 86) [] [.op 2 0,.op 3 0]),(5,.op 1 0),(0,.val w),(1,.rp x.l),(2,.rp [iv bi]),(3,.rp [iv deep]),(4,.rp [.val (.chan (some c))])]
def wC (x:aj)(bi:Nat)(K:Kn):List aa:=[setH K.aK,.cells (K.l 0) 88,.cells x.l 76,.cells [iv bi] 3]
theorem alW{lv:Bool}{x:aj}{bi c:Nat}{w:SP}{deep:Int}{bs:List UY}(hx:x.Ok)(lT:bi<=3)(hA:∀h∈kv x bi,mD h/\∀ns∈fY x h,∀a∈(iu x h ns).map (dA h ns),ju x a)(Φ:an->AS->List Nat->Prop)(hΦ:Φ .normal ⟨u9 x bi deep c w,wC x bi (gL x deep bi)++[.obj (.deferred (some [])),.gone]⟩ [4]):
  kA lv SA 25 bs (cs (cf (cs (cs aay)))) ⟨u9 x bi deep c w,wC x bi Kn.zero⟩ [] Φ:=by
 unfold aay asg;dsimp only[S7,cs,cf];refine xf ?_;refine Iv (by rfl) λl fn T ag bo hT xH qf=> ?_;(try simp only[seval,wC]);simp only[u9,iv]at hT;have bO:x.l=[iv x.first,iv x.hours,iv x.am,dS x.seen,aW x.pieces,aW x.aB]:=rfl;obtain⟨Gf,ux⟩:∃Gf:Kn->List aa,∀K,Gf K=[setH K.aK,.cells (K.l 0) 88,.cells x.l 76,.cells [iv bi] 3,.obj (.deferred (some [])),.loop l .ready none fn T 25 #[13] ag bo 4]:=⟨_,λ_=>rfl⟩;have JM:∀K,(Gf K).length=6:=λK=>by rw[ux];rfl
 have ajB:∀m K K',(∀z∈Gf K,fb m z)->∀z∈Gf K',fb m z:=λm K K' hz z eZ=>by
  rw[ux]at hz eZ;have h1:=hz (.cells (K.l 0) 88) (by simp);simp only[SK,S0,or_false]at eZ;rcases eZ with rfl|rfl|rfl|rfl|rfl|rfl
  ·trivial
  ·exact yi (Gs h1)
  ·exact hz _ (by simp)
  ·exact hz _ (by simp)
  ·exact hz _ (by simp)
  ·exact hz _ (by simp)
 have hY:jU lv SA (.fn (.yield l) [] []) (λK h=> .go ((iI x deep h).foldl (eE x deep) K)) Gf 6 bJ (λh=>mD h/\∀ns∈fY x h,∀a∈(iu x h ns).map (dA h ns),ju x a) (.aL []):=by
  refine⟨λK h M k kp hK ha dz=> ?_,λK h K' hK ha he=> ?_,JM,ajB,rfl,rfl,rfl⟩
  ·obtain⟨pj,C0⟩:=ha;have h4:=pj.len;have nu:(h.map iv).length=4:=(by rw[Tn,h4]);obtain⟨Lo,lc⟩:∃Lo,Lo=aa.loop l .busy none fn T 25 #[13] ag bo 4:=⟨_,rfl⟩;obtain⟨P1,dt⟩:∃P1:Kn->List aa,∀K,P1 K=[setH K.aK,.cells (K.l 0) 88,.cells x.l 76,.cells [iv bi] 3,.obj (.deferred (some [])),Lo]++M:=⟨_,λ_=>rfl⟩;have ek:∀K,(P1 K).length=6+M.length:=λK=>(by rw[dt];simp;omega);have pg:∀(K:Kn)(L:List aa)(i:Nat),i<6->(P1 K++L)[i]?=[setH K.aK,aa.cells (K.l 0) 88,.cells x.l 76,.cells [iv bi] 3,.obj (.deferred (some [])),Lo][i]?:=λK L i KF=>by
    rw[dt,SC,SW (by simpa using KF)]
   have pb:∀(K:Kn)(L:List aa)(i:Nat),(P1 K++L)[6+M.length+i]?=L[i]?:=λK L i=>(by rw[<- ek K,aX]);have wJ:∀(K:Kn)(L:List aa),(P1 K++L)[6+M.length]?=L[0]?:=λK L=>pb K L 0;have pK:∀(K:Kn)(L:List aa)(y:aa),(P1 K++L).set (6+M.length+4) y=P1 K++L.set 4 y:=λK L y=>(by rw[<- ek K,dU]);have s5:∀(K:Kn)(L:List aa) y,(P1 K++L).set 5 y=[setH K.aK,.cells (K.l 0) 88,.cells x.l 76,.cells [iv bi] 3,.obj (.deferred (some [])),y]++M++L:=λK L y=>(by rw[dt];rfl);have Az:∀(K K':Kn)(L L':List aa),L'.length=L.length->(∀q,(∀z∈L,fb q z)->∀z∈L',fb q z)->bI (P1 K++L)->bI (P1 K'++L'):=λK K' L L' hl hL hH z hz=>by
    have hlen:(P1 K'++L').length=(P1 K++L).length:=(by simp[ek,hl]);rw[hlen];rcases SR.1 hz with h'|h'
    ·rw[dt]at h';rcases SR.1 h' with h'|h'
     ·have h1:=hH (.cells (K.l 0) 88) (by rw[dt];simp);have hq:∀w∈[setH K.aK,aa.cells (K.l 0) 88,.cells x.l 76,.cells [iv bi] 3,.obj (.deferred (some [])),Lo],fb (P1 K++L).length w:=λw hw=>hH w (by rw[dt,SC];exact Tf _ hw);simp only[SK,S0,or_false]at h';rcases h' with rfl|rfl|rfl|rfl|rfl|rfl
      ·trivial
      ·exact yi (Gs h1)
      ·exact hq _ (by simp)
      ·exact hq _ (by simp)
      ·exact hq _ (by simp)
      ·exact hq _ (by simp)
     ·exact hH z (by rw[dt];simp[h'])
    ·exact hL _ (λw hw=>hH w (S4 _ hw)) z h'
   simp only[cX]at dz;rw[ux]at dz;rw[ux];subst hT xH qf;refine vR (id:=5) (by rfl) rfl (by kernel_rfl) λoi JI=> ?_;simp only[sq];have we:T7 4 [iv 0,iv 0,iv 0,iv 0]=[]:=rfl;refine ai ?_;simp only[seval,u9,h4,we];unfold ui;refine⟨none,fn,_,25,#[13],_,_,_,by rfl,?_⟩;dsimp only;simp only[UF,TZ];rw[<- lc];have xC:M.length+1+1+1+1+1+1=6+M.length:=(by omega);rw[xC];have xQ:∀z:aa,(setH K.aK::aa.cells (K.l 0) 88::aa.cells x.l 76::aa.cells [AV.val (SF SD ↑bi)] 3::aa.obj (aud (some []))::Lo::(M++[z]))=P1 K++[z]:=λz=>(by rw[dt];rfl);rw[xQ];refine ai ?_;simp only[seval,bO,wJ,h4,nu];rw[SX (i:=4) (l:=h.map iv) (by rw[nu];exact SQ _)];refine aI ((Ji (x:=x) (h:=h) (deep:=deep) ?_));(try simp only[seval]);refine cq ?_;have qn:∀(K:Kn)(a b c d:aa),(P1 K++[a,b,c,d]).length=6+M.length+4:=λK a b c d=>(by simp[ek]);refine EH 5 (by rfl) (by show (P1 K++_)[5]?=_;rw[pg K _ 5 (by omega),lc];rfl) λl2 eQ T2 gC gE oo xI xK=> ?_;simp only[seval];rw[ek]at oo⊢;have xG:jU lv SA (.fn (.yield l2) [] []) (λK t=> .go (eE x deep K t)) (λK=>P1 K++[.cells (h.map iv) 83,.cells x.l 76,.cells (h.map iv) 83,.cells [iv deep] 3,.loop l2 .ready none eQ T2 25 #[18] gC gE 4]) (6+M.length+5) bJ (ju x) (.aL []):=by
    refine⟨λK' t M2 k2 yj JP ht ln=> ?_,λK' t Be JP ht he=> ?_,λK'=>by simp[ek],λq K' Be hz z eZ=> ?_,rfl,rfl,rfl⟩
    ·have qz:=ht.len;have Al:(t.map iv).length=11:=(by rw[Tn,qz]);obtain⟨pP,sY⟩:∃Lo,Lo=aa.loop l2 .busy none eQ T2 25 #[18] gC gE 4:=⟨_,rfl⟩;obtain⟨Q1,gh⟩:∃Q1:Kn->List aa,∀K,Q1 K=P1 K++([.cells (h.map iv) 83,.cells x.l 76,.cells (h.map iv) 83,.cells [iv deep] 3,pP]++M2):=⟨_,λ_=>rfl⟩;obtain⟨C,hC⟩:∃C,C=6+M.length+5+M2.length:=⟨_,rfl⟩;have JV:∀K,(Q1 K).length=C:=λK=>(by rw[gh,hC];simp[ek];omega);have l5:∀(K:Kn)(L:List aa),(P1 K++L)[6+M.length+4]?=L[4]?:=λK L=>pb K L 4;have q0:∀(K:Kn)(L:List aa),(Q1 K++L)[0]?=some (setH K.aK):=λK L=>(by rw[gh,SC];exact pg K _ 0 (by omega));have q1:∀(K:Kn)(L:List aa),(Q1 K++L)[1]?=some (.cells (K.l 0) 88):=λK L=>(by rw[gh,SC];exact pg K _ 1 (by omega));have q4:∀(K:Kn)(L:List aa),(Q1 K++L)[6+M.length+4]?=some pP:=λK L=>(by rw[gh,SC,l5];rfl);have qc:∀(K:Kn)(L:List aa),(Q1 K++L)[C]?=L[0]?:=λK L=>(by rw[<- JV K];exact aX _ L 0);have Ni:∀(K:Kn)(L:List aa)(y:aa),(Q1 K++L).set (6+M.length+4) y=(P1 K++([.cells (h.map iv) 83,.cells x.l 76,.cells (h.map iv) 83,.cells [iv deep] 3,y]++M2))++L:=λK L y=>(by rw[gh,SC,pK];simp);have apg:∀(K K':Kn)(L:List aa),((Q1 K++L).set 1 (.cells (K'.l 0) 88)).set 0 (setH K'.aK)=Q1 K'++L:=λK K' L=>(by rw[gh,gh,dt,dt];rfl);have fE:∀(Be:Kn),bI (P1 K'++([.cells (h.map iv) 83,.cells x.l 76,.cells (h.map iv) 83,.cells [iv deep] 3,.loop l2 .ready none eQ T2 25 #[18] gC gE 4]++M2))->bI (P1 Be++([.cells (h.map iv) 83,.cells x.l 76,.cells (h.map iv) 83,.cells [iv deep] 3,.loop l2 .ready none eQ T2 25 #[18] gC gE 4]++M2)):=λBe ii=>Az K' Be _ _ rfl (λq hz=>hz) ii;simp only[cX]at ln;have Ks:∀z:aa,P1 K'++(aa.cells (U9 iv h) 83::aa.cells x.l 76::aa.cells (U9 iv h) 83::aa.cells [AV.val (SF SD deep)] 3::pP::(M2++[z]))=Q1 K'++[z]:=λz=>(by rw[gh];simp[iv]);subst oo xI xK;rw[SC];refine vR (id:=6+M.length+4) (by rw[l5];rfl) rfl (by kernel_rfl) λrq JJ=> ?_;simp only[sq];have Ct:T7 11 [iv 0,iv 0,iv 0,iv 0,iv 0,iv 0,iv 0,iv 0,iv 0,iv 0,iv 0]=[]:=rfl;refine ai ?_;simp only[seval,qz,Ct];unfold ui;refine⟨none,eQ,_,25,#[18],_,_,_,by rw[l5];rfl,?_⟩;dsimp only;rw[pK];simp only[UF,TZ];rw[<- sY];have Ca:(P1 K').length+(M2.length+1+1+1+1+1)=C:=(by rw[ek,hC];omega);rw[Ca];have iQ:∀z:aa,(P1 K'++aa.cells (U9 iv h) 83::aa.cells x.l 76::aa.cells (U9 iv h) 83::aa.cells [AV.val (SF SD deep)] 3::pP::(M2++[z]))=Q1 K'++[z]:=Ks;rw[iQ];refine ai ?_;simp only[seval,bO,qc,qz,Al];rw[SX (i:=11) (l:=t.map iv) (by rw[Al];exact SQ _)];refine aI ((aiC (x:=x) (t:=t) (deep:=deep) (fp:=1) (mp:=0) (Q:=K') hx ht JP (by decide) (q1 K' _) (q0 K' _) ?_));rw[apg];(try simp only[seval]);show oT _ _ _ _ _ _ _;refine⟨l2,.busy,none,eQ,_,25,#[18],_,_,4,by show (Q1 _++_)[_]?=_;rw[q4,sY],?_⟩;show cF C ((Q1 _++_).set _ _) _ k2;rw[Ni];rw[SC]at ln;exact jy (G:=[.cells (t.map iv) 86]) (Wk.refl _) rfl (by rw[hC];simp[ek];omega) (fE _ rq) (.val _) ln
    ·cases he;exact NH hx ht JP
    ·rcases SR.1 eZ with h'|h'
     ·have h1:=hz (.cells (K'.l 0) 88) (by rw[dt];simp);rw[dt]at h';rcases SR.1 h' with h'|h'
      ·simp only[SK,S0,or_false]at h';rcases h' with rfl|rfl|rfl|rfl|rfl|rfl
       ·trivial
       ·exact yi (Gs h1)
       all_goals exact hz _ (by rw[dt];simp)
      ·exact hz z (by rw[dt];simp[h'])
     ·exact hz z (S4 _ h')
   refine cx (Jm (x:=x) (h:=h) (deep:=deep) (ir:=6+M.length+1) (ih:=6+M.length+1+1) (id:=6+M.length+1+2) (σ:=K) hx pj xG (λK L=> ?_) (λK L=> ?_) (λK L=> ?_) (λn=>by simp[jL]) hK (λa ha=>ha.len) C0 ?_)
   ·rw[SC];exact pb _ _ 1
   ·rw[SC];exact pb _ _ 2
   ·rw[SC];exact pb _ _ 3
   rw[DF (g:=eE x deep) (λ_ _=>rfl)];simp only[f_,SO];have l5:∀(K:Kn)(L:List aa),(P1 K++L)[6+M.length+4]?=L[4]?:=λK L=>pb K L 4;refine⟨.ready,none,_,_,_,_,_,_,_,by rw[l5];rfl,by decide,?_⟩;rw[pK,G7];(try simp only[seval]);show oT _ _ _ _ _ _ _;have atm:=lc;refine⟨l,.busy,none,fn,_,25,#[13],_,_,4,by show (P1 _++_)[_]?=_;rw[pg _ _ 5 (by omega),lc];rfl,?_⟩;show cF (6+M.length) ((P1 _++_).set _ _) _ k;rw[s5];refine jy (G:=[.cells (h.map iv) 83,.cells x.l 76,.cells (h.map iv) 83,.cells [iv deep] 3,.gone]) (Wk.refl _) rfl (by simp;omega) ?_ (.val _) dz;intro z hz;have h1:=oi (.cells (K.l 0) 88) (by simp);have hlen:∀(y:aa),([setH (aa' (eE x deep) K (iI x deep h)).aK,aa.cells ((aa' (eE x deep) K (iI x deep h)).l 0) 88,.cells x.l 76,.cells [iv bi] 3,.obj (.deferred (some [])),y]++M).length=(setH K.aK::aa.cells (K.l 0) 88::aa.cells x.l 76:: .cells [iv bi] 3:: .obj (.deferred (some []))::y::M).length:=λy=>rfl;rcases SR.1 hz with h'|h'
   ·simp only[SK,S0,or_false]at h';rcases h' with rfl|rfl|rfl|rfl|rfl|rfl
    ·trivial
    ·exact yi (Gs h1)
    all_goals exact oi _ (by simp)
   ·exact oi z (by simp[h'])
  ·cases he;exact Jz hx (λt ht=>by obtain⟨ns,h1,h2⟩:=NO ht;exact ha.2 ns h1 t h2) hK
 have hgo:bD (λK h=>dC.go ((iI x deep h).foldl (eE x deep) K)) (kv x bi) Kn.zero=.go (gL x deep bi):=by
  rw[DF (g:=λK h=>(iI x deep h).foldl (eE x deep) K) (λ_ _=>rfl),gL,List.foldl_flatMap]
 refine IB (by kernel_rfl) ?_;have e0:=ux Kn.zero;simp only[iv]at e0;rw[<- e0];refine Jk (lv:=lv) (x:=x) (bi:=bi) (N:=6) (ir:=2) (it:=3) (σ:=Kn.zero) hx hY (λK L=>by rw[ux];rfl) (λK L=>by rw[ux];rfl) lT (λn=>by simp[jL]) Da hA ?_;rw[hgo];simp only[f_,SO];refine⟨.ready,none,_,_,_,_,_,_,_,by rw[ux];rfl,by decide,?_⟩;rw[ux,G6];exact hΦ
open Go.Conc
inductive Ht where
 |z
 |s (f:Tp->Ht)
inductive Bc:Ht->Ht->Prop where
 |mk (f:Tp->Ht) (w:Tp):Bc (f w) (.s f)
theorem alw:WellFounded Bc:=by
 refine⟨λh=> ?_⟩;induction h with
 |z=>exact⟨_,λy hy=>by cases hy⟩
 |s f ih=>exact⟨_,λy hy=>by cases hy with|mk _ w=>exact ih w⟩
inductive lF (P:SI):Ht->View->SG->Prop where
 |step {f:Tp->Ht} {V V₁:View} {g:SG} (G':Tp->SG) (W':Tp->Tp) (E':Tp->Array Ur) (V':Tp->View) (hs:g.status=.running) (hg:dR V V₁)
   (h1:∀w,Sat V₁ w->stepG P false g w=.go (G' w) (W' w) (E' w)) (h2:∀w,Sat V₁ w->dg V₁ w (V' w) (W' w) (E' w)) (h3:∀w,Sat V₁ w->lF P (f w) (V' w) (G' w)):lF P (.s f) V g
 |send {h:Ht} {V V₁:View} {g:SG} (c Wg:Nat) (sp:Spec) (S:List Spec) (v z:SP) (B:Nat->Bool) (hs:g.status=.running) (hg:dR V V₁) (hr:V₁.role=.work c Wg (sp::S)) (hd:V₁.deaf=0) (ho:g.offers=none)
   (h1:∀w,Sat V₁ w->stepG P false g w=.comm g #[scase c v z] true .send w #[]) (h2:sp v V₁.ab (λb=>if B b then V₁.own b else none))
   (h3:lF P h {V₁ with own:=λb=>if B b then none else V₁.own b,role:=.work c Wg S} (T5 g undef)):lF P (.s λ_=>h) V g
 |done {V V₁:View} {g:SG} (c Wg:Nat) (hg:dR V V₁) (hr:V₁.role=.work c Wg []) (hd:V₁.deaf=0) (h1:En P Wg g):lF P (.s λ_=> .z) V g
 |slip {h:Ht} {V V₁:View} {g g':SG} (c Wg:Nat) (hs:g.status=.running) (hg:dR V V₁) (hr:V₁.role=.work c Wg []) (h1:∀w st,Sat V₁ w->WgAt P Wg w st 0->stepG P false g w=.go g' w #[]) (h3:lF P h V₁ g'):lF P (.s λ_=>h) V g
theorem lF.running{P:SI}{h:Ht}{V:View}{g:SG}(k:lF P h V g):g.status=.running:=by
 cases k with
 |step _ _ _ _ hs=>exact hs
 |send _ _ _ _ _ _ _ hs=>exact hs
 |done _ _ _ _ _ h1=>exact h1.1
 |slip _ _ hs=>exact hs
open Classical in
theorem ar7(P:SI):yO P false (λV g=>∃h,lF P h V g)where
 step V g hs h:=by
  have hc:∀w,∃h' g' w' es V',Sat V w->stepG P false g w=.go g' w' es/\dg V w V' w' es/\lF P h' V' g':=by
   intro w;by_cases hw:Sat V w
   ·obtain⟨g',w',es,V',h1,h2,h',h3⟩:=h w hw;exact⟨h',g',w',es,V',λ_=>⟨h1,h2,h3⟩⟩
   ·exact⟨.z,g,w,#[],V,λx=>absurd x hw⟩
  have o_:=λw=>(hc w).choose_spec.choose_spec.choose_spec.choose_spec.choose_spec;exact⟨.s λw=>(hc w).choose,.step (λw=>(hc w).choose_spec.choose) (λw=>(hc w).choose_spec.choose_spec.choose) (λw=>(hc w).choose_spec.choose_spec.choose_spec.choose)
   (λw=>(hc w).choose_spec.choose_spec.choose_spec.choose_spec.choose) hs (dR.refl V) (λw hw=>(o_ w hw).1) (λw hw=>(o_ w hw).2.1) (λw hw=>(o_ w hw).2.2)⟩
 ghost V V' g hg h:=by
  obtain⟨h,hk⟩:=h;cases hk with
  |step a b c d e f x y z=>exact⟨_,.step a b c d e (hg.trans f) x y z⟩
  |send a b c d e f m n o p q r s t u=>exact⟨_,.send a b c d e f m n (hg.trans o) p q r s t u⟩
  |done a b o p q r=>exact⟨_,.done a b (hg.trans o) p q r⟩
  |slip a b f o p q r=>exact⟨_,.slip a b f (hg.trans o) p q r⟩
 send V g c Wg sp S v z B h1 h2 h3 h4 h5 h6 h7:=by
  obtain⟨h,hk⟩:=h7;exact⟨_,.send c Wg sp S v z B h3 (dR.refl V) h1 h2 h4 h5 h6 hk⟩
 done V g c Wg h1 h2 h3:=⟨_,.done c Wg (dR.refl V) h1 h2 h3⟩
 slip V g g' c Wg h1 h2 h3 h4:=by
  obtain⟨h,hk⟩:=h4;exact⟨_,.slip c Wg h2 (dR.refl V) h1 h3 hk⟩
structure yZ where
 a:Nat
 h:Ht
 n:Nat
def qU:yZ->yZ->Prop:=λx y=>x.a<y.a\/(x.a=y.a/\(Bc x.h y.h\/(x.h=y.h/\x.n<y.n)))
theorem apl:WellFounded qU:=by
 refine⟨λ⟨a,h,n⟩=> ?_⟩;induction a using Yj generalizing h n with
 |_ a iha=>
  induction h using alw.induction generalizing n with
  |_ h ihh=>
   induction n using Yj with
   |_ n LX=>
    refine⟨_,λ⟨a',h',n'⟩ hlt=> ?_⟩;rcases hlt with x|⟨rfl,x|⟨rfl,x⟩⟩
    ·exact iha a' x h' n'
    ·exact ihh h' x n'
    ·exact LX n' x
def Br (N:Nat)(f' f:Nat->yZ):Prop:=∃i,i<N/\qU (f' i) (f i)/\∀j,j≠i->f' j=f j
theorem aqt(N:Nat):WellFounded (Br N):=by
 refine⟨?_⟩;induction N with
 |zero=>intro f;exact⟨_,λf' ⟨i,hi,_⟩=>by omega⟩
 |succ N ih=>
  have key:∀x:yZ,∀f,f N=x->Acc (Br (N+1)) f:=by
   intro x;induction x using apl.induction with
   |_ x ihx=>
    intro f hf;have inner:∀f,Acc (Br N) f->f N=x->Acc (Br (N+1)) f:=by
     intro f ha;induction ha with
     |intro f _ LW=>
      intro hf;refine⟨_,λf' ⟨i,hi,hlt,ho⟩=> ?_⟩;by_cases fu:i=N
      ·subst fu;exact ihx (f' i) (hf▸hlt) f' rfl
      ·exact LW f' ⟨i,by omega,hlt,ho⟩ ((ho N (Ne.symm fu)).trans hf)
    exact inner f (ih f) hf
  exactλf=>key (f N) f rfl
def Bm (N:Nat)(x y:(Nat->yZ)×Nat):Prop:=Br N x.1 y.1\/(x.1=y.1/\x.2<y.2)
theorem aa3(N:Nat):WellFounded (Bm N):=by
 refine⟨λ⟨f,n⟩=> ?_⟩;induction f using(aqt N).induction generalizing n with
 |_ f LW=>
  induction n using Yj with
  |_ n LX=>
   refine⟨_,λ⟨f',n'⟩ hlt=> ?_⟩;rcases hlt with x|⟨x,y⟩
   ·exact LW f' x n'
   ·have x':f'=f:=x;subst x';exact LX n' y
open Go.ConcN
structure TI (t:Um)(B N:Nat)(rd wr:Nat->Loc->Prop)(Sh:Loc->Prop)(act:Nat->Prop)(ic:Nat):Prop where
 nr:∀said,¬Race said t
 low:∀op∈t,op.act.low B
 gs:∀op∈t,op.g<N
 norel:∀op∈t,∀a,op.act≠ .mark (.release a)
 kr:∀i,i<N->∀l,rd i l->PermW t i l
 kw:∀i,i<N->∀l,wr i l->Perm t i l
 sp:∀idx a,touchAt t idx=some a->Sh a.loc->(a.kind=.plain->∀i,act i->Wm t i idx)/\(a.kind=.said->Wm t ic idx)
def Fit (B:Nat)(rd wr:Nat->Loc->Prop)(Sh:Loc->Prop)(act:Nat->Prop)(ic i:Nat)(x:YI):Prop:=
 (Sh x.loc/\x.kind=.atomic/\act i)\/(Sh x.loc/\x.kind=.said/\i=ic/\act i)\/(¬Sh x.loc/\(wr i x.loc\/(rd i x.loc/\x.write=false)\/¬x.loc.low B))
theorem amZ{B:Nat}{m:MemAct}(h:m.low B){x:YI}(hx:m.touch?=some x):x.loc.low B:=by
 cases m with
 |access e=>simp only[Wd,Tj]at hx;subst hx;exact h
 |mark m=>cases m<;>simp[Wd]at hx<;>(subst hx;exact h)
 |_=>simp[Wd]at hx
theorem NN{t:Um}{B:Nat}(h:∀op∈t,op.act.low B){idx:Nat}{a:YI}(ha:touchAt t idx=some a):a.loc.low B:=by
 obtain⟨x,hx,Gh⟩:=UU ha;exact amZ (h x (XQ hx)) Gh
theorem AZ{t u:Um}{idx:Nat}{a:YI}(h:touchAt (t++u) idx=some a):touchAt t idx=some a\/(t.size<=idx/\∃op∈u,(t++u)[idx]?=some op/\op.act.touch?=some a):=by
 obtain⟨x,hx,Gh⟩:=UU h;rcases Xh hx with⟨_,jK⟩|⟨hi,hu⟩
 ·exact .inl (by rw[touchAt_of jK];exact Gh)
 ·exact .inr ⟨hi,x,hu,hx,Gh⟩
theorem TI.app{t:Um}{B N B':Nat}{rd wr rd' wr':Nat->Loc->Prop}{Sh:Loc->Prop}{act:Nat->Prop}{ic:Nat}(h:TI t B N rd wr Sh act ic){u:Um}{i:Nat}(hi:i<N)(hu:∀op∈u,op.g=i)
  (hf:∀op∈u,∀x,op.act.touch?=some x->Fit B rd wr Sh act ic i x) (hl:∀op∈u,op.act.low B') (hB:B<=B') (hn:∀op∈u,∀a,op.act≠ .mark (.release a))
  (Lj:∀j l,j≠i->rd' j l->rd j l) (rR:∀j l,j≠i->wr' j l->wr j l) (Ll:∀l,rd' i l->l.low B->rd i l\/wr i l) (ye:∀l,wr' i l->l.low B->wr i l)
  (ex:∀l j,j≠i->(wr i l->¬rd j l/\¬wr j l)/\(rd i l->¬wr j l)) (Hl:∀l j,Sh l->¬rd j l/\¬wr j l) (aaQ:∀j l,rd j l\/wr j l->l.low B):
  TI (t++u) B' N rd' wr' Sh act ic where
 nr said:=by
  refine noRace_append (h.nr said) hu λidx a ha op ay b hb hc=> ?_;have bm:=hc;obtain⟨cU,_,KQ,qn⟩:=hc;rcases hf op ay b hb with⟨h1,h2,h3⟩|⟨h1,h2,h3,h4⟩|⟨_,h2|⟨h2,h3⟩|h2⟩
  ·rw[h2]at qn;rcases qn with x|x|⟨_,_,x⟩
   ·exact(h.sp idx a ha (cU▸h1)).1 x i h3
   ·cases x
   ·cases x
  ·rw[h2]at qn;rcases qn with x|x|⟨_,x,_⟩
   ·exact(h.sp idx a ha (cU▸h1)).1 x i h4
   ·cases x
   ·rw[h3];exact(h.sp idx a ha (cU▸h1)).2 x
  ·exact h.kw i hi _ h2 idx a ha cU
  ·exact h.kr i hi _ h2 idx a ha cU (by rw[h3]at KQ;simpa using KQ)
  ·exact absurd (cU▸NN h.low ha) h2
 low op ay:=(Uu.1 ay).elim (λx=>Zi hB (h.low op x)) (hl op)
 gs op ay:=(Uu.1 ay).elim (h.gs op) (λx=>by rw[hu op x];exact hi)
 norel op ay:=(Uu.1 ay).elim (h.norel op) (hn op)
 kr j hj l tE:=by
  by_cases cp:j=i
  ·subst cp;intro idx a ha gI hw;rcases AZ ha with gk|⟨_,op,ay,cZ,hx⟩
   ·have ij:l.low B:=gI▸NN h.low gk;rcases Ll l tE ij with x|x
    ·exact(h.kr j hj l x idx a gk gI hw).app u
    ·exact(h.kw j hj l x idx a gk gI).app u
   ·have:=Zb cZ;rwa [hu op ay]at this
  ·have CQ:=Lj j l cp tE;refine(h.kr j hj l CQ).app λop ay b hb cO hw=> ?_;exfalso;rcases hf op ay b hb with⟨h1,_⟩|⟨h1,_⟩|⟨_,h2|⟨_,h3⟩|h2⟩
   ·exact(Hl l j (cO▸h1)).1 CQ
   ·exact(Hl l j (cO▸h1)).1 CQ
   ·exact((ex l j cp).1 (cO▸h2)).1 CQ
   ·rw[h3]at hw;cases hw
   ·exact h2 (cO▸aaQ j l (.inl CQ))
 kw j hj l rQ:=by
  by_cases cp:j=i
  ·subst cp;intro idx a ha gI;rcases AZ ha with gk|⟨_,op,ay,cZ,hx⟩
   ·exact(h.kw j hj l (ye l rQ (gI▸NN h.low gk)) idx a gk gI).app u
   ·have:=Zb cZ;rwa [hu op ay]at this
  ·have nN:=rR j l cp rQ;refine(h.kw j hj l nN).app λop ay b hb cO=> ?_;exfalso;rcases hf op ay b hb with⟨h1,_⟩|⟨h1,_⟩|⟨_,h2|⟨h2,_⟩|h2⟩
   ·exact(Hl l j (cO▸h1)).2 nN
   ·exact(Hl l j (cO▸h1)).2 nN
   ·exact((ex l j cp).1 (cO▸h2)).2 nN
   ·exact(ex l j cp).2 (cO▸h2) nN
   ·exact h2 (cO▸aaQ j l (.inr nN))
 sp idx a ha dK:=by
  rcases AZ ha with gk|⟨_,op,ay,cZ,hx⟩
  ·exact⟨λhp j hj=>((h.sp idx a gk dK).1 hp j hj).app u,λhp=>((h.sp idx a gk dK).2 hp).app u⟩
  ·rcases hf op ay a hx with⟨_,h2,_⟩|⟨_,h2,h3,_⟩|⟨h1,_⟩
   ·exact⟨λhp=>absurd (h2.symm.trans hp) (by simp),λhp=>absurd (h2.symm.trans hp) (by simp)⟩
   ·refine⟨λhp=>absurd (h2.symm.trans hp) (by simp),λ_=> ?_⟩;have:=Zb cZ;rw[hu op ay,h3]at this;exact this
   ·exact absurd dK h1
theorem TI.weaken{t:Um}{B N B':Nat}{rd wr rd' wr':Nat->Loc->Prop}{Sh Oh:Loc->Prop}{act act':Nat->Prop}{ic kK:Nat}(h:TI t B N rd wr Sh act ic)(hB:B<=B')
  (Lj:∀i l,i<N->rd' i l->rd i l\/wr i l) (rR:∀i l,i<N->wr' i l->wr i l)
  (x9:∀idx a,touchAt t idx=some a->Oh a.loc->(a.kind=.plain->∀i,act' i->Wm t i idx)/\(a.kind=.said->Wm t kK idx)):TI t B' N rd' wr' Oh act' kK:=
 ⟨h.nr,λop ay=>Zi hB (h.low op ay),h.gs,h.norel,λi hi l x=>(Lj i l hi x).elim (h.kr i hi l) (λy=>PermW.of (h.kw i hi l y)),λi hi l x=>h.kw i hi l (rR i l hi x),x9⟩
theorem anx{t u:Um}(h:∀said,¬Race said t)(hn:∀op∈u,op.act.touch?=none):∀said,¬Race said (t++u):=by
 intro said
 rintro⟨i,j,ku,⟨a,b,ha,hb,hc⟩,n1,n2⟩
 have old:∀{k:Nat}{x:YI},((t++u).act? k).bind (·.touch?)=some x->k<t.size/\(t.act? k).bind (·.touch?)=some x:=by
  intro k x hx;obtain⟨y,hy,LO⟩:=UU hx;rcases Xh hy with⟨hk,pC⟩|⟨_,hyu⟩
  ·exact⟨hk,by simp[Trace.act?,pC,LO]⟩
  ·rw[hn y hyu]at LO;cases LO
 exact h said ⟨i,j,ku,⟨a,b,(old ha).2,(old hb).2,hc⟩,λe=>n1 (hb_app u e),λe=>n2 (hb_app u e)⟩
theorem A0{t u:Um}(hn:∀op∈u,op.act.touch?=none){idx:Nat}{a:YI}(h:touchAt (t++u) idx=some a):touchAt t idx=some a:=by
 rcases AZ h with h|⟨_,op,ay,_,hx⟩
 ·exact h
 ·rw[hn op ay]at hx;cases hx
theorem TI.mute{t:Um}{B N N':Nat}{rd wr rd' wr':Nat->Loc->Prop}{Sh:Loc->Prop}{act act':Nat->Prop}{ic kK:Nat}(h:TI t B N rd wr Sh act ic){u:Um}(hn:∀op∈u,op.act.touch?=none)(hl:∀op∈u,op.act.low B)(hg:∀op∈u,op.g<N')(hN:N<=N')
  (rJ:∀op∈u,∀a,op.act≠ .mark (.release a))
  (kr:∀i,i<N'->∀l,rd' i l->∀idx a,touchAt t idx=some a->a.loc=l->a.write=true->Wm (t++u) i idx) (kw:∀i,i<N'->∀l,wr' i l->∀idx a,touchAt t idx=some a->a.loc=l->Wm (t++u) i idx)
  (sp:∀idx a,touchAt t idx=some a->Sh a.loc->(a.kind=.plain->∀i,act' i->Wm (t++u) i idx)/\(a.kind=.said->Wm (t++u) kK idx)):TI (t++u) B N' rd' wr' Sh act' kK:=
 ⟨anx h.nr hn,λop ay=>(Uu.1 ay).elim (h.low op) (hl op),λop ay=>(Uu.1 ay).elim (λx=>Td (h.gs op x) hN) (hg op),λop ay=>(Uu.1 ay).elim (h.norel op) (rJ op),
  λi hi l x idx a ha=>kr i hi l x idx a (A0 hn ha),λi hi l x idx a ha=>kw i hi l x idx a (A0 hn ha),λidx a ha=>sp idx a (A0 hn ha)⟩
theorem rk{t u:Um}{k:Nat}{x:Wc}(h:u[k]?=some x):(t++u)[t.size+k]?=some x:=by
 rw[X2 (by omega)];simpa using h
theorem heard_new{t u:Um}{k g:Nat}{x:Wc}(h:u[k]?=some x)(hx:x.g=g)(hd:(t++u).deaf g (t.size+k)=0):(t++u).heard (t.size+k):=⟨g,by simp[WB,rk h,hx],hd⟩
def still (m:MemAct):Prop:=m≠ .mark .disable/\m≠ .mark .enable
theorem IL{g d:Nat}{y:Wc}(h:still y.act):deafStep g d y=d:=by
 unfold deafStep;obtain⟨_,_,_,act⟩:=y;cases act with
 |mark m=>cases m<;>first|rfl|exact absurd rfl h.1|exact absurd rfl h.2
 |_=>rfl
theorem ur{t u:Um}{g:Nat}(hs:∀op∈u,still op.act):∀{k:Nat},k<=u.size->(t++u).deaf g (t.size+k)=UT t g:=by
 intro k;induction k with
 |zero=>intro _;exact deaf_old (SQ _)
 |succ k ih=>
  intro hk;have hlt:k<u.size:=by omega
  have hy:u[k]?=some u[k]:=SJ hlt;have e:=Z_ (g:=g) (rk (t:=t) hy);rw[show t.size+(k+1)=t.size+k+1 from rfl,e,ih (by omega),IL (hs _ (XR hlt))]
theorem Deaf_still{t u:Um}{g:Nat}(hs:∀op∈u,still op.act):UT (t++u) g=UT t g:=by
 have:=ur (t:=t) (g:=g) hs (SQ u.size);unfold UT;rw[XA];exact this
theorem anc{t u:Um}{k c s:Nat}{x0 x1 x2 x3:Wc}(hu:u=#[x0,x1,x2,x3]) (h0:x0.g=k/\x0.act=.send c s) (h1:still x1.act) (h2:still x2.act) (h3:x3.g=0/\x3.act=.recvDone c s) (dk:UT t k=0) (d0:UT t 0=0) {idx:Nat} (h:Wm t k idx):Wm (t++u) 0 idx:=by
 have hs:∀op∈u,still op.act:=by
  subst hu;intro op ay;simp only[TK,SK,S0,or_false]at ay;rcases ay with rfl|rfl|rfl|rfl
  ·rw[h0.2];exact⟨by simp,by simp⟩
  ·exact h1
  ·exact h2
  ·rw[h3.2];exact⟨by simp,by simp⟩
 have e0:u[0]?=some x0:=by subst hu;rfl
 have e3:u[3]?=some x3:=by subst hu;rfl
 have aV:u.size=4:=by subst hu;rfl
 have g0:=rk (t:=t) e0;have g3:=rk (t:=t) e3;have hh0:(t++u).heard (t.size+0):=heard_new e0 h0.1 (by rw[ur hs (by omega)];exact dk);have RB:(t++u).heard (t.size+3):=heard_new e3 h3.1 (by rw[ur hs (by omega)];exact d0);have hb:HappensBefore (t++u) idx (t.size+0):=h.hb_new (by omega) g0 h0.1;exact⟨_,x3,g3,h3.1,.inr (hb.trans (.single (.inr ⟨.handOver (c:=c) (k:=s) (by rw[ae_ g0,h0.2]) (by rw[ae_ g3,h3.2]),hh0,RB⟩)))⟩
theorem aez{t:Um}{a:U5}{r q i:Nat}{y:Wc}(hr:t.act? r=some (.mark (.releaseMerge a)))(hh:t.heard r)(hn:∀op∈t,∀a,op.act≠ .mark (.release a))(hy:y.g=q/\y.act=.mark (.acquire a))(hd:UT t q=0)(hb:Before t i r):Wm (t++#[y]) q i:=by
 have e:(#[y]:Um)[0]?=some y:=rfl;have g:=rk (t:=t) e;have tE:=Wb hr;have aQ:∀op∈(#[y]:Um),still op.act:=by
  intro op ay;simp only[TK,SK,S0,or_false]at ay;subst ay;rw[hy.2];exact⟨by simp,by simp⟩
 have KE:(t++#[y]).heard (t.size+0):=heard_new e hy.1 (by rw[ur aQ (by simp)];exact hd);refine⟨_,y,g,hy.1,.inr ((hb.app #[y]).hb (.single (.inr ⟨.marked (a:=a) (by omega) (.inr (by rw[X0 tE];exact hr)) (by rw[ae_ g,hy.2]) (λk iD cG e'=> ?_),(Wr tE).2 hh,KE⟩)))⟩;obtain⟨op,ho,hoa⟩:=Tq.1 e';rcases Xh ho with⟨_,bf⟩|⟨hk,_⟩
 ·exact hn op (XQ bf) a hoa
 ·omega
theorem agq{t:Um}{c p q i:Nat}{y:Wc}(hp:t.act? p=some (.close c))(hh:t.heard p)(hy:y.g=q/\y.act=.recvClosed c)(hd:UT t q=0)(hb:Before t i p):Wm (t++#[y]) q i:=by
 have e:(#[y]:Um)[0]?=some y:=rfl;have g:=rk (t:=t) e;have dG:=Wb hp;have aQ:∀op∈(#[y]:Um),still op.act:=by
  intro op ay;simp only[TK,SK,S0,or_false]at ay;subst ay;rw[hy.2];exact⟨by simp,by simp⟩
 have KE:(t++#[y]).heard (t.size+0):=heard_new e hy.1 (by rw[ur aQ (by simp)];exact hd);exact⟨_,y,g,hy.1,.inr ((hb.app #[y]).hb (.single (.inr ⟨.closed (c:=c) (by rw[X0 dG];exact hp) (by rw[ae_ g,hy.2]),(Wr dG).2 hh,KE⟩)))⟩
def jS (U V:View):Prop:=∀b,U.own b≠none->V.own b=none/\∀o,V.ab b o≠none->U.ab b o≠none
def gN (V:View):Loc->Prop
 |.cell a=>V.own a.block≠none\/V.ab a.block a.off≠none
 |.obj r=>V.own r≠none
 |_=>False
def jT (V:View):Loc->Prop
 |.cell a=>V.own a.block≠none/\V.ab a.block a.off=none
 |.obj r=>V.own r≠none
 |_=>False
theorem jT.rd{V:View}:∀{l:Loc},jT V l->gN V l
 |.cell _,h=> .inl h.1
 |.obj _,h=>h
theorem dg.others{V V' U:View}{w w':Tp}{es:Array Ur}(s:dg V w V' w' es)(hV:Sat V w)(h:Sat U w)(d:jS V U):Sat U w':=by
 refine⟨λb o v e=> ?_,λb x e=> ?_⟩
 ·have hc:=h.ab b o v e;have hb:=h.C7 e;cases ho:V.own b with
  |none=>
   have:=s.frame b hb ho;simp only[Uz,this]at hc⊢;exact hc
  |some x=>
   have hp:=(d b (by rw[ho];simp)).2 o (by rw[e];simp);cases hi:V.ab b o with
   |none=>exact absurd hi hp
   |some v'=>
    have e1:=hV.ab b o v' hi;rw[hc]at e1;cases e1;exact s.sat.ab b o v (s.ab b o v hi)
 ·have hb:=h.lt e;have ho:V.own b=none:=by
   cases ho:V.own b with
   |none=>rfl
   |some y=>rw[(d b (by rw[ho];simp)).1]at e;cases e
  rw[s.frame b hb ho];exact h.own b x e
theorem dg.vT{V V' U:View}{w w':Tp}{es:Array Ur}(s:dg V w V' w' es)(h:Sat U w)(d:jS V U)(d':jS U V):jS V' U/\jS U V':=by
 have key:∀b,V'.own b≠none->V.own b≠none\/w.heap.size<=b:=by
  intro b hb;by_cases hlt:b<w.heap.size
  ·exact .inl λe=>hb (s.own b hlt e)
  ·exact .inr (by omega)
 refine⟨λb hb=> ?_,λb hb=> ?_⟩
 ·rcases key b hb with x|x
  ·refine⟨(d b x).1,λo ho=> ?_⟩;have:=(d b x).2 o ho;cases e:V.ab b o with
   |none=>exact absurd e this
   |some v=>rw[s.ab b o v e];simp
  ·have:=h.fresh x;exact⟨this.1,λo ho=>absurd (this.2 o) ho⟩
 ·have hlt:b<w.heap.size:=by
   cases e:U.own b with
   |none=>exact absurd e hb
   |some x=>exact h.lt e
  refine⟨?_,λo ho=> ?_⟩
  ·exact s.own b hlt (d' b hb).1
  ·cases e:V'.ab b o with
   |none=>exact absurd e ho
   |some v=>
    rcases s.kL b o v e with x|x|x
    ·exact(d' b hb).2 o (by rw[x];simp)
    ·exact absurd (d' b hb).1 x
    ·omega
theorem dR.vT{V V' U:View}(g:dR V V')(d:jS V U)(d':jS U V):jS V' U/\jS U V':=by
 refine⟨λb hb=> ?_,λb hb=>⟨g.own b (d' b hb).1,λo ho=> ?_⟩⟩
 ·have x:V.own b≠none:=λe=>hb (g.own b e);refine⟨(d b x).1,λo ho=> ?_⟩;cases e:V.ab b o with
  |none=>exact absurd e ((d b x).2 o ho)
  |some v=>rw[g.ab b o v e];simp
 ·cases e:V'.ab b o with
  |none=>exact absurd e ho
  |some v=>
   rcases g.kL b o v e with x|x
   ·exact(d' b hb).2 o (by rw[x];simp)
   ·exact absurd (d' b hb).1 x
theorem dR.rd{V V':View}(g:dR V V'):∀{l:Loc},gN V' l->gN V l
 |.cell a,h=>by
  rcases h with h|h
  ·exact .inl λe=>h (g.own _ e)
  ·cases e:V'.ab a.block a.off with
   |none=>exact absurd e h
   |some v=>exact(g.kL _ _ _ e).elim (λx=> .inr (by rw[x];simp)) .inl
 |.obj _,h=>λe=>h (g.own _ e)
theorem dR.wr{V V':View}(g:dR V V'):∀{l:Loc},jT V' l->jT V l
 |.cell a,h=>⟨λe=>h.1 (g.own _ e),by
  cases e:V.ab a.block a.off with
  |none=>rfl
  |some v=>exact absurd (g.ab _ _ _ e) (by rw[h.2];simp)⟩
 |.obj _,h=>λe=>h (g.own _ e)
theorem gN.low{V:View}{w:Tp}(h:Sat V w):∀{l:Loc},gN V l->l.low w.heap.size
 |.cell a,x=>by
  rcases x with x|x
  ·cases e:V.own a.block with
   |none=>exact absurd e x
   |some y=>exact h.lt e
  ·cases e:V.ab a.block a.off with
   |none=>exact absurd e x
   |some y=>exact h.C7 e
 |.obj r,x=>by
  cases e:V.own r with
  |none=>exact absurd e x
  |some y=>exact h.lt e
theorem dg.rd{V V':View}{w w':Tp}{es:Array Ur}(s:dg V w V' w' es):∀{l:Loc},gN V' l->l.low w.heap.size->gN V l
 |.cell a,h,hl=>by
  have eJ:a.block<w.heap.size:=hl;rcases h with h|h
  ·exact .inl λe=>h (s.own _ eJ e)
  ·cases e:V'.ab a.block a.off with
   |none=>exact absurd e h
   |some v=>
    rcases s.kL _ _ _ e with x|x|x
    ·exact .inr (by rw[x];simp)
    ·exact .inl x
    ·omega
 |.obj r,h,hl=>λe=>h (s.own _ hl e)
theorem dg.wr{V V':View}{w w':Tp}{es:Array Ur}(s:dg V w V' w' es):∀{l:Loc},jT V' l->l.low w.heap.size->jT V l
 |.cell a,h,hl=>⟨λe=>h.1 (s.own _ hl e),by
  cases e:V.ab a.block a.off with
  |none=>rfl
  |some v=>exact absurd (s.ab _ _ _ e) (by rw[h.2];simp)⟩
 |.obj r,h,hl=>λe=>h (s.own _ hl e)
theorem agN{U V:View}(d:jS U V)(d':jS V U)(l:Loc):(jT U l->¬gN V l/\¬jT V l)/\(gN U l->¬jT V l):=by
 cases l with
 |cell a=>
  refine⟨λh=> ?_,λh=> ?_⟩
  ·have:=d _ h.1;refine⟨λx=> ?_,λx=>x.1 this.1⟩;rcases x with x|x
   ·exact x this.1
   ·exact this.2 _ x h.2
  ·intro x;have:=d' _ x.1;rcases h with h|h
   ·exact h this.1
   ·exact this.2 _ h x.2
 |obj r=>exact⟨λh=>⟨λx=>x (d r h).1,λx=>x (d r h).1⟩,λh x=>h (d' r x).1⟩
 |_=>exact⟨λh=>h.elim,λh=>h.elim⟩
def qW (c Wg:Nat):Loc->Prop
 |.cell a=>a.block=Wg
 |.obj r=>r=c
 |_=>False
structure Core (VV:Nat->View)(N:Nat)(w:Tp)(t:Um)(Sh:Loc->Prop)(act:Nat->Prop)(ic n0:Nat)(W0:Tp):Prop where
 sat:∀i,i<N->Sat (VV i) w
 dM:∀i j,i<N->j<N->i≠j->jS (VV i) (VV j)
 ti:TI t w.heap.size N (λi l=>i<N/\gN (VV i) l/\¬Sh l) (λi l=>i<N/\jT (VV i) l/\¬Sh l) Sh act ic
 tape:w.tape=W0.tape
 os:w.os=W0.os
 out:w.output=W0.output
 old:∀b,b<n0->w.heap[b]?=W0.heap[b]?
 jm:∀i,i<N->∀b,b<n0->(VV i).own b=none
 n0:n0<=w.heap.size
def upd {α:Type}(f:Nat->α)(i:Nat)(x:α):Nat->α:=λj=>if j=i then x else f j
theorem bx{α:Type}(f:Nat->α)(i:Nat)(x:α):upd f i x i=x:=by simp[upd]
theorem ba{α:Type}(f:Nat->α){i j:Nat}(x:α)(h:j≠i):upd f i x j=f j:=by simp[upd,h]
section
variable {VV:Nat->View}{N:Nat}{w w':Tp}{t:Um}{Sh:Loc->Prop}{act:Nat->Prop}{ic n0 i:Nat}{W0:Tp}
theorem Core.draw(h:Core VV N w t Sh act ic n0 W0)(d:Nat):Core VV N (w.at d) t Sh act ic n0 W0:=
 ⟨λi hi=>⟨(h.sat i hi).ab,(h.sat i hi).own⟩,h.dM,h.ti,h.tape,h.os,h.out,h.old,h.jm,h.n0⟩
theorem I9{V:View}{B:Nat}{e:Ur}(he:mW V B e){x:YI}(hx:(Ts e).touch?=some x):(jT V x.loc\/(gN V x.loc/\x.write=false)\/¬x.loc.low B)/\
  (∀c,V.role.chan=some c->x.loc≠ .obj c)/\(∀Wg a,V.role.group=some Wg->x.loc=.cell a->a.block=Wg->x.kind≠ .plain):=by
 obtain⟨l,wr,s⟩:=e;cases l with
 |cell a=>
  simp only[am',Wd,Tj]at hx;subst hx;cases wr with
  |false=>
   refine⟨?_,λc _=>by simp,λWg a' hr ha hb=> ?_⟩
   ·rcases he.1 with h|h|h
    ·exact .inr (.inr (by show ¬a.block<B;omega))
    ·exact .inr (.inl ⟨.inl h,rfl⟩)
    ·exact .inr (.inl ⟨.inr h,rfl⟩)
   ·cases ha;rcases he.2 with h|h
    ·subst h;simp
    ·subst hb;exact absurd hr h
  |true=>
   refine⟨?_,λc _=>by simp,λWg a' hr ha hb=> ?_⟩
   ·rcases he.1 with h|h
    ·exact .inr (.inr (by show ¬a.block<B;omega))
    ·exact .inl h
   ·cases ha;rcases he.2 with h|h
    ·subst h;simp
    ·subst hb;exact absurd hr h
 |obj r=>
  obtain⟨⟨rfl,h2⟩,h3⟩:=he;have e1:Ts ⟨.obj r,wr,false⟩=.access ⟨.obj r,wr,false⟩:=by cases wr<;>rfl
  rw[e1]at hx;simp only[Wd,Tj]at hx;subst hx;refine⟨?_,λc hc e=> ?_,λWg a _ ha=>by cases ha⟩
  ·rcases h2 with h|h
   ·exact .inr (.inr (by show ¬r<B;omega))
   ·exact .inl h
  ·cases e;exact h3 hc
 |mark m=>
  have e1:Ts ⟨.mark m,wr,s⟩=.mark m:=by cases wr<;>cases s<;>rfl
  rw[e1]at hx;cases m<;>simp only[Wd,Tj,reduceCtorEq]at hx
  all_goals
   subst hx;refine⟨?_,λc _=>by simp,λWg a' _ _ _=>by simp⟩;have ko:mF V B _:=he;rcases ko with h|h
   ·exact .inr (.inr (by simp only[Loc.low];omega))
   ·exact .inl h
 |_=>exact he.elim
theorem Core.PU(h:Core VV N w t Sh act ic n0 W0)(l:Loc){i j:Nat}(hi:i<N)(hj:j≠i):
  ((i<N/\jT (VV i) l/\¬Sh l)->¬(j<N/\gN (VV j) l/\¬Sh l)/\¬(j<N/\jT (VV j) l/\¬Sh l))/\((i<N/\gN (VV i) l/\¬Sh l)->¬(j<N/\jT (VV j) l/\¬Sh l)):=by
 by_cases CB:j<N
 ·have:=agN (h.dM i j hi CB (Ne.symm hj)) (h.dM j i CB hi hj) l;exact⟨λ⟨_,x,_⟩=>⟨λ⟨_,y,_⟩=>(this.1 x).1 y,λ⟨_,y,_⟩=>(this.1 x).2 y⟩,λ⟨_,x,_⟩ ⟨_,y,_⟩=>this.2 x y⟩
 ·exact⟨λ_=>⟨λ⟨y,_⟩=>CB y,λ⟨y,_⟩=>CB y⟩,λ_ ⟨y,_⟩=>CB y⟩
theorem Core.step(h:Core VV N w t Sh act ic n0 W0)(hi:i<N){V':View}{es:Array Ur}(s:dg (VV i) w V' w' es)
  (dK:∀e∈es,∀x,(Ts e).touch?=some x->Sh x.loc->(x.kind=.atomic/\act i)\/(x.kind=.said/\i=ic/\act i)) (fn:TO) (pos:String):
  Core (upd VV i V') N w' (t++Ta i fn pos es) Sh act ic n0 W0 where
 sat j hj:=by
  by_cases cp:j=i
  ·subst cp;rw[bx];exact s.sat
  ·rw[ba _ _ cp];exact s.others (h.sat i hi) (h.sat j hj) (h.dM i j hi hj (Ne.symm cp))
 dM a b ha hb gH:=by
  by_cases nw:a=i
  ·subst nw;have v8:b≠a:=Ne.symm gH;rw[bx,ba _ _ v8];exact(s.vT (h.sat b hb) (h.dM a b ha hb gH) (h.dM b a hb ha v8)).1
  ·by_cases iO:b=i
   ·subst iO;rw[bx,ba _ _ nw];exact(s.vT (h.sat a ha) (h.dM b a hb ha (Ne.symm gH)) (h.dM a b ha hb gH)).2
   ·rw[ba _ _ nw,ba _ _ iO];exact h.dM a b ha hb gH
 ti:=by
  refine h.ti.app hi (λop ay=>by obtain⟨e,_,rfl⟩:=TM ay;rfl) (λop ay x hx=> ?_) (λop ay=>by obtain⟨e,he,rfl⟩:=TM ay;exact s.low e he) s.size (λop ay a=> ?_)
   (λj l hj ⟨x,y⟩=>by rw[ba _ _ hj]at y;exact⟨x,y⟩) (λj l hj ⟨x,y⟩=>by rw[ba _ _ hj]at y;exact⟨x,y⟩)
   (λl ⟨x,y,z⟩ hl=>by rw[bx]at y;exact .inl ⟨x,s.rd y hl,z⟩) (λl ⟨x,y,z⟩ hl=>by rw[bx]at y;exact⟨x,s.wr y hl,z⟩)
   (λl j hj=>h.PU l hi hj) (λl j hs=>⟨λx=>x.2.2 hs,λx=>x.2.2 hs⟩) (λj l x=>x.elim (λy=>gN.low (h.sat j y.1) y.2.1) (λy=>gN.low (h.sat j y.1) y.2.1.rd))
  ·obtain⟨e,he,rfl⟩:=TM ay;by_cases hs:Sh x.loc
   ·rcases dK e he x hx hs with⟨a,b⟩|⟨a,b,c⟩
    ·exact .inl ⟨hs,a,b⟩
    ·exact .inr (.inl ⟨hs,a,b,c⟩)
   ·refine .inr (.inr ⟨hs,?_⟩);rcases(I9 (s.ff e he) hx).1 with x'|⟨x',y⟩|x'
    ·exact .inl ⟨hi,x',hs⟩
    ·exact .inr (.inl ⟨⟨hi,x',hs⟩,y⟩)
    ·exact .inr (.inr x')
  ·obtain⟨e,he,rfl⟩:=TM ay;intro e';have hk:=s.ff e he;obtain⟨l,wr,sy⟩:=e;cases l with
   |mark m=>
    have e1:Ts ⟨.mark m,wr,sy⟩=.mark m:=(by cases wr<;>cases sy<;>rfl);simp only[e1,ag']at e';subst e';exact hk
   |cell a'=>simp[am']at e'
   |obj r=>cases wr<;>cases sy<;>simp[Ts]at e'
   |_=>exact hk
 tape:=s.tape.trans h.tape
 os:=s.os.trans h.os
 out:=s.output.trans h.out
 old b hb:=(s.frame b (Td hb h.n0) (h.jm i hi b hb)).trans (h.old b hb)
 jm j hj b hb:=by
  by_cases cp:j=i
  ·subst cp;rw[bx];exact s.own b (Td hb h.n0) (h.jm j hj b hb)
  ·rw[ba _ _ cp];exact h.jm j hj b hb
 n0:=UM h.n0 s.size
theorem Core.ghost(h:Core VV N w t Sh act ic n0 W0)(hi:i<N){V':View}(g:dR (VV i) V'):Core (upd VV i V') N w t Sh act ic n0 W0 where
 sat j hj:=by
  by_cases cp:j=i
  ·subst cp;rw[bx];exact g.sat _ (h.sat j hj)
  ·rw[ba _ _ cp];exact h.sat j hj
 dM a b ha hb gH:=by
  by_cases nw:a=i
  ·subst nw;have v8:b≠a:=Ne.symm gH;rw[bx,ba _ _ v8];exact(g.vT (h.dM a b ha hb gH) (h.dM b a hb ha v8)).1
  ·by_cases iO:b=i
   ·subst iO;rw[bx,ba _ _ nw];exact(g.vT (h.dM b a hb ha (Ne.symm gH)) (h.dM a b ha hb gH)).2
   ·rw[ba _ _ nw,ba _ _ iO];exact h.dM a b ha hb gH
 ti:=h.ti.weaken (SQ _) (λj l _ ⟨x,y,z⟩=>by
   by_cases cp:j=i
   ·subst cp;rw[bx]at y;exact .inl ⟨x,g.rd y,z⟩
   ·rw[ba _ _ cp]at y;exact .inl ⟨x,y,z⟩) (λj l _ ⟨x,y,z⟩=>by
   by_cases cp:j=i
   ·subst cp;rw[bx]at y;exact⟨x,g.wr y,z⟩
   ·rw[ba _ _ cp]at y;exact⟨x,y,z⟩) h.ti.sp
 tape:=h.tape
 os:=h.os
 out:=h.out
 old:=h.old
 jm j hj b hb:=by
  by_cases cp:j=i
  ·subst cp;rw[bx];exact g.own b (h.jm j hj b hb)
  ·rw[ba _ _ cp];exact h.jm j hj b hb
 n0:=h.n0
def mE (V' V:View):Prop:=(∀b,V'.own b=none\/V'.own b=V.own b)/\(∀b o,V'.ab b o=none\/V'.ab b o=V.ab b o)/\(∀b,V'.own b≠none->∀o,V'.ab b o=V.ab b o)
theorem mE.sat{V V':View}(l:mE V' V){w:Tp}(h:Sat V w):Sat V' w:=
 ⟨λb o v e=>h.ab b o v (by rcases l.2.1 b o with x|x<;>rw[x]at e;cases e;exact e),λb x e=>h.own b x (by rcases l.1 b with y|y<;>rw[y]at e;cases e;exact e)⟩
theorem mE.rd{V V':View}(k:mE V' V):∀{l:Loc},gN V' l->gN V l
 |.cell a,h=>h.imp (λx y=>by rcases k.1 a.block with z|z;exact x z;exact x (z.trans y)) (λx y=>by rcases k.2.1 a.block a.off with z|z;exact x z;exact x (z.trans y))
 |.obj r,h=>λy=>by rcases k.1 r with z|z;exact h z;exact h (z.trans y)
theorem mE.wr{V V':View}(k:mE V' V):∀{l:Loc},jT V' l->jT V l
 |.cell a,h=>⟨λy=>by rcases k.1 a.block with z|z;exact h.1 z;exact h.1 (z.trans y),by rw[<- k.2.2 _ h.1];exact h.2⟩
 |.obj r,h=>λy=>by rcases k.1 r with z|z;exact h z;exact h (z.trans y)
theorem mE.vT{V V' U:View}(k:mE V' V)(d:jS V U)(d':jS U V):jS V' U/\jS U V':=by
 refine⟨λb hb=> ?_,λb hb=>⟨?_,λo ho=> ?_⟩⟩
 ·have x:V.own b≠none:=λy=>by rcases k.1 b with z|z;exact hb z;exact hb (z.trans y)
  exact⟨(d b x).1,λo ho=>by rw[k.2.2 b hb];exact(d b x).2 o ho⟩
 ·rcases k.1 b with z|z;exact z;exact z.trans (d' b hb).1
 ·exact(d' b hb).2 o λy=>by rcases k.2.1 b o with z|z;exact ho z;exact ho (z.trans y)
theorem Core.less(h:Core VV N w t Sh act ic n0 W0)(hi:i<N){V':View}(k:mE V' (VV i)):Core (upd VV i V') N w t Sh act ic n0 W0 where
 sat j hj:=by
  by_cases cp:j=i
  ·subst cp;rw[bx];exact k.sat (h.sat j hj)
  ·rw[ba _ _ cp];exact h.sat j hj
 dM a b ha hb gH:=by
  by_cases nw:a=i
  ·subst nw;have v8:b≠a:=Ne.symm gH;rw[bx,ba _ _ v8];exact(k.vT (h.dM a b ha hb gH) (h.dM b a hb ha v8)).1
  ·by_cases iO:b=i
   ·subst iO;rw[bx,ba _ _ nw];exact(k.vT (h.dM b a hb ha (Ne.symm gH)) (h.dM a b ha hb gH)).2
   ·rw[ba _ _ nw,ba _ _ iO];exact h.dM a b ha hb gH
 ti:=h.ti.weaken (SQ _) (λj l _ ⟨x,y,z⟩=>by
   by_cases cp:j=i
   ·subst cp;rw[bx]at y;exact .inl ⟨x,k.rd y,z⟩
   ·rw[ba _ _ cp]at y;exact .inl ⟨x,y,z⟩) (λj l _ ⟨x,y,z⟩=>by
   by_cases cp:j=i
   ·subst cp;rw[bx]at y;exact⟨x,k.wr y,z⟩
   ·rw[ba _ _ cp]at y;exact⟨x,y,z⟩) h.ti.sp
 tape:=h.tape
 os:=h.os
 out:=h.out
 old:=h.old
 jm j hj b hb:=by
  by_cases cp:j=i
  ·subst cp;rw[bx];rcases k.1 b with z|z;exact z;exact z.trans (h.jm j hj b hb)
  ·rw[ba _ _ cp];exact h.jm j hj b hb
 n0:=h.n0
theorem Core.tW(h:Core VV N w t Sh act ic n0 W0)(hi:i<N){es:Array Ur}(cu:∀e∈es,∀x,(Ts e).touch?=some x->Fit w.heap.size (λi l=>i<N/\gN (VV i) l/\¬Sh l) (λi l=>i<N/\jT (VV i) l/\¬Sh l) Sh act ic i x)
  (ij:∀e∈es,(Ts e).low w.heap.size) (rJ:∀e∈es,∀a,Ts e≠ .mark (.release a)) (SB:Nat->Prop) (pz:∀b,SB b->n0<=b/\∀j,j<N->(VV j).own b=none/\∀o,(VV j).ab b o=none)
  (aV:w'.heap.size=w.heap.size) (jF:∀b,¬SB b->w'.heap[b]?=w.heap[b]?) (ht:w'.tape=w.tape) (ho:w'.os=w.os) (hu:w'.output=w.output) (fn:TO) (pos:String):
  Core VV N w' (t++Ta i fn pos es) Sh act ic n0 W0 where
 sat j hj:=by
  have hs:=h.sat j hj;refine⟨λb o v e=> ?_,λb x e=> ?_⟩
  ·have hb:¬SB b:=λx=>(by rw[((pz b x).2 j hj).2 o]at e;cases e);have:=hs.ab b o v e;simp only[Uz,jF b hb];exact this
  ·have hb:¬SB b:=λy=>(by rw[((pz b y).2 j hj).1]at e;cases e);rw[jF b hb];exact hs.own b x e
 dM:=h.dM
 ti:=by
  rw[aV];refine h.ti.app hi (λop ay=>by obtain⟨e,_,rfl⟩:=TM ay;rfl) (λop ay x hx=>by obtain⟨e,he,rfl⟩:=TM ay;exact cu e he x hx) (λop ay=>by obtain⟨e,he,rfl⟩:=TM ay;exact ij e he) (SQ _) (λop ay a=>by obtain⟨e,he,rfl⟩:=TM ay;exact rJ e he a)
   (λj l _ x=>x) (λj l _ x=>x) (λl x _=> .inl x) (λl x _=>x) (λl j hj=>h.PU l hi hj) (λl j hs=>⟨λx=>x.2.2 hs,λx=>x.2.2 hs⟩) (λj l x=>x.elim (λy=>gN.low (h.sat j y.1) y.2.1) (λy=>gN.low (h.sat j y.1) y.2.1.rd))
 tape:=ht.trans h.tape
 os:=ho.trans h.os
 out:=hu.trans h.out
 old b hb:=(jF b (λx=>by have:=(pz b x).1;omega)).trans (h.old b hb)
 jm:=h.jm
 n0:=by rw[aV];exact h.n0
theorem Core.quiet(h:Core VV N w t Sh act ic n0 W0)(hi:i<N){es:Array Ur}(Ko:∀e∈es,(Ts e).touch?=none/\(Ts e).low w.heap.size/\∀a,Ts e≠ .mark (.release a))(fn:TO)(pos:String):
  Core VV N w (t++Ta i fn pos es) Sh act ic n0 W0:=
 h.tW hi (λe he x hx=>by rw[(Ko e he).1]at hx;cases hx) (λe he=>(Ko e he).2.1) (λe he=>(Ko e he).2.2) (λ_=>False) (λb x=>x.elim) rfl (λ_ _=>rfl) rfl rfl rfl fn pos
theorem Core.role(h:Core VV N w t Sh act ic n0 W0)(hi:i<N){V':View}(h1:V'.ab=(VV i).ab)(h2:V'.own=(VV i).own):Core (upd VV i V') N w t Sh act ic n0 W0:=
 h.less hi ⟨λb=> .inr (by rw[h2]),λb o=> .inr (by rw[h1]),λb _ o=>by rw[h1]⟩
end
inductive GS where
 |gone (q:Nat)
 |work (j:Nat) (h:Ht) (V:View)
 |nT (j:Nat) (h:Ht) (V V':View) (g0:SG) (v z:SP)
 |add (n:Nat)
 |load (n:Nat)
 |store (n:Nat)
 |my (n:Nat)
 |head (k n:Nat)
 |mc (v n:Nat)
 |said (n:Nat)
 |ig (n:Nat)
 |last (n:Nat)
 |acq (n:Nat)
 |look (n:Nat)
 |close (n:Nat)
def noView:View:={ab:=λ_ _=>none,own:=λ_=>none,deaf:=0,role:=.plain}
def GS.view (Im:cw):GS->View
 |.work _ _ V=>V
 |.nT _ _ V _ _ _ _=>V
 |.head .. |.mc .. |.said _|.ig _|.last _|.acq _|.look _=>{noView with ab:=Im}
 |_=>noView
def GS.cnt:GS->Nat
 |.work .. |.nT .. |.add _=>1
 |_=>0
def GS.late:GS->Nat
 |.load _|.store _|.my _=>1
 |_=>0
def GS.idx:GS->Option Nat
 |.work j _ _=>some j
 |.nT j _ _ _ _ _ _=>some j
 |_=>none
def GS.shape:GS->GS
 |.gone _=> .gone 0
 |.work j _ _=> .work j .z noView
 |.nT j _ _ _ _ _ _=> .work j .z noView
 |.add _=> .add 0
 |.load _=> .load 0
 |.store _=> .store 0
 |.my _=> .my 0
 |.head k _=> .head k 0
 |.mc v _=> .mc v 0
 |.said _=> .said 0
 |.ig _=> .ig 0
 |.last _=> .last 0
 |.acq _=> .acq 0
 |.look _=> .look 0
 |.close _=> .close 0
theorem GS.nh:∀K:GS,K.shape.cnt=K.cnt:=by intro K;cases K<;>rfl
theorem GS.mu:∀K:GS,K.shape.late=K.late:=by intro K;cases K<;>rfl
theorem GS.Gm:∀K:GS,K.shape.idx=K.idx:=by intro K;cases K<;>rfl
def GS.ng:GS->Bool
 |.head .. |.mc .. |.said _|.ig _|.last _|.acq _|.look _|.close _=>true
 |_=>false
theorem GS.Pf:∀K:GS,K.shape.ng=K.ng:=by intro K;cases K<;>rfl
def GS.c_:GS->yZ
 |.gone q=>⟨0,.z,q⟩
 |.work _ h V=>⟨11+2* (match V.role with|.work _ _ S=>S.length|_=>0),h,0⟩
 |.nT _ h V _ _ _ _=>⟨10+2* (match V.role with|.work _ _ S=>S.length|_=>0),h,0⟩
 |.add n=>⟨8,.z,n⟩
 |.load n=>⟨7,.z,n⟩
 |.store n=>⟨6,.z,n⟩
 |.my n=>⟨5,.z,n⟩
 |.head k n=>⟨100+3* k,.z,n⟩
 |.mc v n=>⟨102+3* v,.z,n⟩
 |.said n=>⟨60,.z,n⟩
 |.ig n=>⟨50,.z,n⟩
 |.last n=>⟨40,.z,n⟩
 |.acq n=>⟨30,.z,n⟩
 |.look n=>⟨20,.z,n⟩
 |.close n=>⟨15,.z,n⟩
section
variable (P:SI)(c Wg:Nat)(Im:cw)(Ss:List (List Spec))
def Ed (v d:Nat)(g:SG):Prop:=d=1/\g.status=.running/\
 (∃g',(∀w,WgAt P Wg w ((v:Int)* KK) 0->stepG P false g w=.go g' (w.setCell (dV Wg) (.int .u64 ((v:Int)* KK+1))) #[jd (dV Wg),kZ (dV Wg)])/\∃n,h_ P Wg (Ee P Im c Wg) n 1 g')/\
 (∀u:Nat,u<v->∃g',(∀w,WgAt P Wg w ((u:Int)* KK) 0->stepG P false g w=.go g' w #[jd (dV Wg)])/\∃n,cS P (eF P Im c Wg v) n 1 g')
theorem eF.succ{k d:Nat}{g:SG}(h:eF P Im c Wg (k+1) d g):d=1/\g.status=.running/\∀v:Nat,v<=k->v<=4->∃g',(∀w,WgAt P Wg w ((v:Int)* KK) 0->stepG P false g w=.go g' w #[jd (dV Wg)])/\
  (v=0->∃n,h_ P Wg (ub P Im c Wg) n 1 g')/\(v≠0->∃n,cS P (Ed P c Wg Im v) n 1 g'):=by
 rw[eF]at h;exact h
theorem eF.zero{d:Nat}{g:SG}(h:eF P Im c Wg 0 d g):False:=by
 rw[eF]at h;exact h
def GS.is:GS->Nat->SG->Prop
 |.gone q,d,g=>Y4 P q d g
 |.work j h V,d,g=>d=V.deaf/\lF P h V g/\∃S,Ss[j]?=some S/\V.role=.work c Wg S
 |.nT j h V V' g0 v z,d,g=>d=0/\V.deaf=0/\g=parked g0 #[scase c v z] .send/\lF P h V' (T5 g0 undef)/\∃sp S,∃B:Nat->Bool,Ss[j]?=some (sp::S)/\V.role=.work c Wg (sp::S)/\
   sp v V.ab (λb=>if B b then V.own b else none)/\V'={V with own:=λb=>if B b then none else V.own b,role:=.work c Wg S}
 |.add n,d,g=>cS P (Ba P Wg) n d g
 |.load n,d,g=>cS P (Eg P Wg) n d g
 |.store n,d,g=>cS P (Ei P Wg) n d g
 |.my n,d,g=>cS P (Eh P Wg) n d g
 |.head k n,d,g=>cS P (eF P Im c Wg k) n d g
 |.mc v n,d,g=>cS P (Ed P c Wg Im v) n d g
 |.said n,d,g=>h_ P Wg (Ee P Im c Wg) n d g
 |.ig n,d,g=>cS P (Ef P Im c Wg) n d g\/(n=0/\∃g1,g={g1 with status:=.blocked}/\Ef P Im c Wg d g1)
 |.last n,d,g=>cS P (HV P Im c Wg) n d g
 |.acq n,d,g=>h_ P Wg (ub P Im c Wg) n d g
 |.look n,d,g=>cS P (HW P Im c) n d g
 |.close n,d,g=>cS P (HU P c) n d g
end
theorem cS.running{P:SI}{Stop:Nat->SG->Prop}(hs:∀d g,Stop d g->g.status=.running):∀{n d:Nat}{g:SG},cS P Stop n d g->g.status=.running
 |0,_,_,h=>hs _ _ h
 |_+1,_,_,h=>h.elim (hs _ _) (λx=>x.1)
theorem h_.running{P:SI}{Wg:Nat}{Stop:Nat->SG->Prop}(hs:∀d g,Stop d g->g.status=.running):∀{n d:Nat}{g:SG},h_ P Wg Stop n d g->g.status=.running
 |0,_,_,h=>hs _ _ h
 |_+1,_,_,h=>h.elim (hs _ _) (λx=>x.1)
theorem Rv{P:SI}{Im:cw}{c Wg:Nat}:∀{k d:Nat}{g:SG},eF P Im c Wg k d g->g.status=.running
 |0,_,_,h=>(eF.zero P c Wg Im h).elim
 |_+1,_,_,h=>(eF.succ P c Wg Im h).2.1
theorem GS.runs{P:SI}{c Wg:Nat}{Im:cw}{Ss:List (List Spec)}{K:GS}{d:Nat}{g:SG}(h:K.is P c Wg Im Ss d g):
  g.status=.running\/g.status=.finished/\(∃q,K=.gone q)\/(∃j h V V' g0 v z,K=.nT j h V V' g0 v z)\/((∃n,K=.ig n)/\g.status=.blocked/\g.offers=none):=by
 cases K with
 |gone q=>exact(ZD h).elim .inl (λx=> .inr (.inl ⟨x,q,rfl⟩))
 |work j h' V=>exact .inl h.2.1.running
 |nT j h' V V' g0 v z=>exact .inr (.inr (.inl ⟨j,h',V,V',g0,v,z,rfl⟩))
 |add n=>exact .inl (cS.running (λd g x=>x.2.1) h)
 |load n=>exact .inl (cS.running (λd g x=>x.2.1) h)
 |store n=>exact .inl (cS.running (λd g x=>x.2.1) h)
 |my n=>exact .inl (cS.running (λd g x=>x.2.1) h)
 |head k n=>exact .inl (cS.running (λd g x=>Rv x) h)
 |mc v n=>exact .inl (cS.running (λd g x=>x.2.1) h)
 |said n=>exact .inl (h_.running (λd g x=>x.2.1) h)
 |ig n=>
  rcases h with h|⟨_,g1,rfl,h⟩
  ·exact .inl (cS.running (λd g x=>x.2.1) h)
  ·exact .inr (.inr (.inr ⟨⟨n,rfl⟩,rfl,h.2.2.1⟩))
 |last n=>exact .inl (cS.running (λd g x=>x.2.1) h)
 |acq n=>exact .inl (h_.running (λd g x=>x.2.1) h)
 |look n=>exact .inl (cS.running (λd g x=>x.2.1) h)
 |close n=>exact .inl (cS.running (λd g x=>x.2.1) h)
structure Rel (Wg:Nat)(t:Um)(i r:Nat):Prop where
 act:t.act? r=some (.mark (.releaseMerge (dV Wg)))
 g:t.g? r=some i
 heard:t.heard r
theorem Rel.app{Wg:Nat}{t u:Um}{i r:Nat}(h:Rel Wg t i r):Rel Wg (t++u) i r:=
 have hr:=Wb h.act
 ⟨by rw[X0 hr];exact h.act,by rw[g?_old hr];exact h.g,(Wr hr).2 h.heard⟩
inductive eg where
 |early
 |got
 |shut (p:Nat)
 deriving DecidableEq
def wX (Wg:Nat)(t:Um)(K:Nat->GS)(ic:Nat):eg->Nat->Prop
 |.early,idx=>∃i,t.g? idx=some i/\0<i/\(((K i).idx.isSome=true)\/(i=ic)\/∃r,Rel Wg t i r/\idx<=r)
 |.got,idx=>Wm t ic idx
 |.shut p,idx=>Before t idx p
def Rest (Wg:Nat)(t:Um)(K:Nat->GS)(ic:Nat)(st:Option eg):Prop:=
 ∀idx a,touchAt t idx=some a->a.loc.isMemory=true->Wm t 0 idx\/(a.kind=.atomic/\¬t.heard idx)\/∃s,st=some s/\wX Wg t K ic s idx
def Mode (P:SI)(c Wg N:Nat)(w:Tp)(gs:Array SG)(t:Um)(K:Nat->GS)(ic:Nat)(s:eg):Prop:=
 let cn:Nat:=sumTo N λi=>(K i).cnt;let la:Nat:=sumTo N λi=>(K i).late;let opn:=∃n,w.heap[c]?=some (.chan 0 #[] false n n false)
 (opn/\s=.early/\la=0/\cn<=4/\WgAt P Wg w ((cn:Int)* KK) 0/\((∃k,(K ic).shape=.head k 0/\cn<k)\/(∃v,(K ic).shape=.mc v 0/\cn<=v/\0<v)))\/
 (opn/\s=.early/\la=0/\1<=cn/\cn<=4/\WgAt P Wg w ((cn:Int)* KK+1) 0/\((K ic).shape=.said 0\/(K ic).shape=.ig 0))\/
 (opn/\s=.early/\la=1/\cn=0/\((K ic).shape=.said 0\/(K ic).shape=.ig 0)/\(∀i,i<N->((K i).shape=.load 0\/(K i).shape=.store 0)->WgAt P Wg w 1 0)/\(∀i,i<N->(K i).shape=.my 0->WgAt P Wg w 0 0))\/
 (opn/\s=.early/\la=0/\cn=0/\WgAt P Wg w 0 1/\(∀g,gs[ic]?=some g->g.status=.running)/\((K ic).shape=.said 0\/(K ic).shape=.ig 0))\/
 (opn/\s=.early/\la=0/\cn=0/\WgAt P Wg w 0 0/\((K ic).shape=.last 0\/(K ic).shape=.acq 0))\/
 (opn/\s=.got/\la=0/\cn=0/\((K ic).shape=.look 0\/(K ic).shape=.close 0))\/
 ((∃p n,s=.shut p/\t.act? p=some (.close c)/\t.heard p/\w.heap[c]?=some (.chan 0 #[] true n n false))/\la=0/\cn=0/\(K ic).shape=.gone 0)
def kC (gs:Array SG)(g:SG):Prop:=∃g0,gs[0]?=some g0/\g0.status=.running/\g0.frame=g.frame/\g0.callers=g.callers/\g0.dying=g.dying
def nZ (gs:Array SG)(g:SG)(c:Nat):Prop:=∃g0 z,gs[0]?=some (parked g0 #[rcase c z] (.recv true))/\g0.frame=g.frame/\g0.callers=g.callers/\g0.dying=g.dying
structure Phase where
 c:Nat
 Wg:Nat
 Ss:List (List Spec)
 recv:Bool
def bE (V:View)(Im:cw)(K:Nat->GS):Nat->View:=λi=>if i=0 then V else(K i).view Im
structure Inv (P:SI)(n0:Nat)(W0:Tp)(V:View)(gs:Array SG)(w:Tp)(t:Um)(K:Nat->GS)(Im:cw)(ic:Nat)(ph:Option Phase)(st:Option eg):Prop where
 pos:0<gs.size
 k0:K 0=.gone 0
 d0:UT t 0=V.deaf
 «is» : ∀ i g, 0 < i -> gs[i]? = some g -> match ph with
  |some p=>(K i).is P p.c p.Wg Im p.Ss (UT t i) g
  |none=>∃q,K i=.gone q/\Y4 P q (UT t i) g
 core:Core (bE V Im K) gs.size w t (match ph with|some p=>qW p.c p.Wg|none=>λ_=>False)
  (λi=>match ph with|some p=>if p.recv then 0<i/\i<gs.size/\((K i).idx.isSome=true\/i=ic\/(K i).cnt=1\/(K i).late=1)else i=0\/(i<gs.size/\(K i).idx.isSome=true)|none=>False) ic n0 W0
 rest:Rest (match ph with|some p=>p.Wg|none=>0) t K ic st
 phase:match ph with
  |none=>st=none
  |some p=>n0<=p.c/\n0<=p.Wg/\p.c≠p.Wg/\p.c<w.heap.size/\p.Wg<w.heap.size/\p.Ss.length<=4/\
   (∀i,0<i->((K i).view Im).own p.c=none/\(∀o,((K i).view Im).ab p.c o=none)/\((K i).view Im).own p.Wg=none/\(∀o,((K i).view Im).ab p.Wg o=none)/\((K i).ng=true->i=ic))/\
   (∀i i' j,0<i->i<gs.size->0<i'->i'<gs.size->(K i).idx=some j->(K i').idx=some j->i=i')/\
   (∀j S,p.Ss[j]?=some S->S≠[]->∃i,0<i/\i<gs.size/\(K i).idx=some j)/\
   (if p.recv then(V.own p.c=none/\(∀o,V.ab p.c o=none)/\V.own p.Wg=none/\(∀o,V.ab p.Wg o=none))/\0<ic/\ic<gs.size/\(∃s,st=some s/\Mode P p.c p.Wg gs.size w gs t K ic s)
    else V.own p.c=some (.chan 0 #[] false 0 0 false)/\ic=0/\st=some .early/\(∀i,0<i->i<gs.size->(K i).idx.isSome=true\/∃q,K i=.gone q)/\(∀S∈p.Ss,S≠[])/\(sumTo gs.size λi=>(K i).cnt)=p.Ss.length)
theorem AX(K:Nat->GS)(k:GS)(φ:GS->Nat){i N:Nat}(hi:i<N):sumTo N (λa=>φ (upd K i k a))+φ (K i)=sumTo N (λa=>φ (K a))+φ k:=sumTo_upd K k φ hi
theorem lA(K:Nat->GS)(k:GS)(φ:GS->Nat){i N:Nat}(h:φ k=φ (K i)):sumTo N (λa=>φ (upd K i k a))=sumTo N (λa=>φ (K a)):=
 Vp λa _=>by by_cases ha:a=i;subst ha;rw[bx,h];rw[ba _ _ ha]
theorem Core.BC{VV:Nat->View}{N:Nat}{w:Tp}{t:Um}{Sh:Loc->Prop}{act act':Nat->Prop}{ic n0:Nat}{W0:Tp}(h:Core VV N w t Sh act ic n0 W0)(ha:∀i,act' i->act i):Core VV N w t Sh act' ic n0 W0:=
 ⟨h.sat,h.dM,h.ti.weaken (SQ _) (λ_ _ _ x=> .inl x) (λ_ _ _ x=>x) (λidx a x y=>⟨λhp i hi=>(h.ti.sp idx a x y).1 hp i (ha i hi),(h.ti.sp idx a x y).2⟩),h.tape,h.os,h.out,h.old,h.jm,h.n0⟩
theorem Core.congr{VV Ew:Nat->View}{N:Nat}{w:Tp}{t:Um}{Sh:Loc->Prop}{act:Nat->Prop}{ic n0:Nat}{W0:Tp}(h:Core VV N w t Sh act ic n0 W0)(e:∀i,i<N->Ew i=VV i):Core Ew N w t Sh act ic n0 W0:=
 ⟨λi hi=>by rw[e i hi];exact h.sat i hi,λi j hi hj ku=>by rw[e i hi,e j hj];exact h.dM i j hi hj ku,
  h.ti.weaken (SQ _) (λi l hi ⟨x,y,z⟩=> .inl ⟨x,by rw[<- e i hi];exact y,z⟩) (λi l hi ⟨x,y,z⟩=>⟨x,by rw[<- e i hi];exact y,z⟩) h.ti.sp,h.tape,h.os,h.out,h.old,λi hi b hb=>by rw[e i hi];exact h.jm i hi b hb,h.n0⟩
theorem NQ(V:View)(Im:cw)(K:Nat->GS){i:Nat}(hi:0<i)(k:GS):bE V Im (upd K i k)=upd (bE V Im K) i (k.view Im):=by
 funext j;by_cases hj:j=i
 ·subst hj;rw[bx];simp[bE,bx];omega
 ·rw[ba _ _ hj];simp[bE,ba _ _ hj]
theorem aas{P:SI}{c Wg:Nat}{Im:cw}{Ss:List (List Spec)}{k:GS}{d:Nat}{x g g':SG}{w':Tp}(ho:(∃n,w'.heap[c]?=some (.chan 0 #[] false n n false))\/k.idx=none) (h:k.is P c Wg Im Ss d x):
  k.is P c Wg Im Ss d (woken P g g' w' x):=by
 rcases GS.runs h with hr|⟨hf,q,rfl⟩|⟨j,h',V,V',g0,v,z,rfl⟩|⟨⟨n,rfl⟩,hb,hof⟩
 ·rw[Yh hr];exact h
 ·rw[woken_quitsD h];exact h
 ·rcases ho with⟨n,ho⟩|ho
  ·obtain⟨h1,h2,rfl,h4⟩:=h;rw[woken_send_open _ _ ho];exact⟨h1,h2,rfl,h4⟩
  ·cases ho
 ·rcases h with h|⟨hn,g1,rfl,h⟩
  ·rw[cS.running (λd g x=>x.2.1) h]at hb;cases hb
  ·unfold woken;split
   ·subst hn;refine .inl ?_;have e:({g1 with status:=at1}:SG).again w'=g1:=by
     obtain⟨f,cs,s,dy,o⟩:=g1;have h2:=h.2.1;have h3:=h.2.2.1;simp only at h2 h3;subst h2 h3;rfl
    rw[e];exact h
   ·exact .inr ⟨hn,g1,rfl,h⟩
theorem MC{P:SI}{gs:Array SG}{g:SG}{w':Tp}{i:Nat}{gi bC:SG}(hi:0<i)(h:kC gs g):kC ((gs.map (woken P gi bC w')).setIfInBounds i bC) g:=by
 obtain⟨g0,h0,h1,h2⟩:=h;exact⟨g0,by rw[SU (by omega),WF,h0];simp[Yh h1],h1,h2⟩
theorem MU{P:SI}{gs:Array SG}{g:SG}{w':Tp}{i c:Nat}{gi bC:SG}(hi:0<i)(h:nZ gs g c)(ho:∃n,w'.heap[c]?=some (.chan 0 #[] false n n false)):nZ ((gs.map (woken P gi bC w')).setIfInBounds i bC) g c:=by
 obtain⟨g0,z,h0,h2⟩:=h;obtain⟨n,ho⟩:=ho;exact⟨g0,z,by rw[SU (by omega),WF,h0];simp[woken_recv_open _ _ ho],h2⟩
theorem an9{P:SI}{gs:Array SG}{g:SG}{w':Tp}{i c:Nat}{gi bC:SG}(hi:0<i)(h:nZ gs g c)(hw:mayWake P gi=true)(hs:bC.status=.running\/bC.status=.finished)(ho:∃n,w'.heap[c]?=some (.chan 0 #[] true n n false)):
  kC ((gs.map (woken P gi bC w')).setIfInBounds i bC) g:=by
 obtain⟨g0,z,h0,h2⟩:=h;obtain⟨n,ho⟩:=ho;refine⟨{parked g0 #[rcase c z] (.recv true)with status:=.running},?_,rfl,h2⟩;rw[SU (by omega),WF,h0];have:woken P gi bC w' (parked g0 #[rcase c z] (.recv true))={parked g0 #[rcase c z] (.recv true)with status:=.running}:=by
  unfold woken;have hc:(mayWake P gi&&bC.status != .blocked&&bC.status != .waiting)=true:=by rcases hs with hs|hs<;>simp[hw,hs]
  rw[if_pos hc,again_recv_closed ho]
 simp[this]
def yX (w:Tp)(c:Nat):Prop:=∃n,w.heap[c]?=some (.chan 0 #[] false n n false)
def H_ (gs gs':Array SG)(w w':Tp)(g:SG)(c:Nat):Prop:=(kC gs g->kC gs' g)/\(nZ gs g c->yX w c->kC gs' g\/(nZ gs' g c/\yX w' c))
def Calm (gs:Array SG):Prop:=∀i x,0<i->gs[i]?=some x->x.status=.blocked->x.offers=none
def flag (gs:Array SG)(ic:Nat):Nat:=if(gs[ic]?).any (·.status== .running)then 1 else 0
def ja (p:Phase)(N ic:Nat)(K:Nat->GS)(i:Nat):Prop:=if p.recv then 0<i/\i<N/\((K i).idx.isSome=true\/i=ic\/(K i).cnt=1\/(K i).late=1)else i=0\/(i<N/\(K i).idx.isSome=true)
section
variable {P:SI}{n0:Nat}{W0:Tp}{V:View}{gs:Array SG}{w:Tp}{t:Um}{K:Nat->GS}{Im:cw}{ic:Nat}{ph:Option Phase}{st:Option eg}
structure gB (P:SI)(n0:Nat)(W0:Tp)(V:View)(gs:Array SG)(w:Tp)(sl:Option (Nat×Nat))(t:Um)(K:Nat->GS)(Im:cw)(ic:Nat)(ph:Option Phase)(st:Option eg)(i:Nat):Prop where
 intro::
 atZ:∃gs' w' ops K' st',runT P (crowd gs w sl) i=(.next (crowd gs' w' sl),ops)/\gs'.size=gs.size/\Inv P n0 W0 V gs' w' (t++ops) K' Im ic ph st'/\(∀g c,(∀p,ph=some p->p.c=c)->H_ gs gs' w w' g c)/\(∀g c,nZ gs g c->Calm gs->Calm gs')/\
  Bm gs.size ((λj=>(K' j).c_),flag gs' ic) ((λj=>(K j).c_),flag gs ic)
theorem getElem?_next{gi bC:SG}{w':Tp}{i j:Nat}{x:SG}(hlt:i<gs.size)(h:((gs.map (woken P gi bC w')).setIfInBounds i bC)[j]?=some x):(j=i/\x=bC)\/(j≠i/\∃y,gs[j]?=some y/\x=woken P gi bC w' y):=by
 by_cases cp:j=i
 ·subst cp;rw[S_ (by simpa using hlt)]at h;exact .inl ⟨rfl,(VY h).symm⟩
 ·rw[SU (Ne.symm cp),WF]at h;obtain⟨y,hy,rfl⟩:=Tq.1 h;exact .inr ⟨cp,y,hy,rfl⟩
theorem Rest.app{Wg:Nat}{t u:Um}{K K':Nat->GS}{ic:Nat}{s s':eg}(h:Rest Wg t K ic (some s))(hold:∀idx a,touchAt t idx=some a->wX Wg t K ic s idx->Wm (t++u) 0 idx\/wX Wg (t++u) K' ic s' idx)
  (ww:∀idx a,t.size<=idx->(∃op∈u,(t++u)[idx]?=some op/\op.act.touch?=some a)->a.loc.isMemory=true->Wm (t++u) 0 idx\/(a.kind=.atomic/\¬(t++u).heard idx)\/wX Wg (t++u) K' ic s' idx):Rest Wg (t++u) K' ic (some s'):=by
 intro idx a ha hm;rcases AZ ha with gk|⟨hi,hx⟩
 ·obtain⟨op,ay,_⟩:=UU gk;rcases h idx a gk hm with x|⟨x,y⟩|⟨s1,dP,x⟩
  ·exact .inl (x.app u)
  ·exact .inr (.inl ⟨x,λz=>y ((Wr (TJ ay)).1 z)⟩)
  ·cases dP;exact(hold idx a gk x).imp id λy=> .inr ⟨s',rfl,y⟩
 ·exact(ww idx a hi hx hm).imp id (λy=>y.imp id λz=>⟨s',rfl,z⟩)
theorem wX.app{Wg:Nat}{t u:Um}{K K':Nat->GS}{ic idx:Nat}{s:eg}(cZ:idx<t.size)(h:wX Wg t K ic s idx)(hK:∀i,t.g? idx=some i->0<i->(K i).idx.isSome=true->(K' i).idx.isSome=true\/∃r,Rel Wg (t++u) i r/\idx<=r):wX Wg (t++u) K' ic s idx:=by
 cases s with
 |early=>
  obtain⟨i,hg,h0,hx⟩:=h;refine⟨i,by rw[g?_old cZ];exact hg,h0,?_⟩;rcases hx with x|x|⟨r,x,y⟩
  ·exact(hK i hg h0 x).imp id .inr
  ·exact .inr (.inl x)
  ·exact .inr (.inr ⟨r,x.app,y⟩)
 |got=>exact Knows.app u h
 |shut p=>exact Before.app u h
end
def sf (ph:Option Phase):Loc->Prop:=match ph with|some p=>qW p.c p.Wg|none=>λ_=>False
def m_ (ph:Option Phase)(N ic:Nat)(K:Nat->GS):Nat->Prop:=λi=>match ph with|some p=>ja p N ic K i|none=>False
def A2 (ph:Option Phase):Nat:=match ph with|some p=>p.Wg|none=>0
section
variable {P:SI}{n0:Nat}{W0:Tp}{V:View}{gs:Array SG}{w w':Tp}{sl:Option (Nat×Nat)}{t:Um}{K:Nat->GS}{Im:cw}{ic:Nat}{ph:Option Phase}{st st':Option eg}
def yY (P:SI)(n0:Nat)(V:View)(gs:Array SG)(w:Tp)(t:Um)(K:Nat->GS)(Im:cw)(ic:Nat)(ph:Option Phase)(st:Option eg):Prop:=match ph with
  |none=>st=none
  |some p=>n0<=p.c/\n0<=p.Wg/\p.c≠p.Wg/\p.c<w.heap.size/\p.Wg<w.heap.size/\p.Ss.length<=4/\
   (∀i,0<i->((K i).view Im).own p.c=none/\(∀o,((K i).view Im).ab p.c o=none)/\((K i).view Im).own p.Wg=none/\(∀o,((K i).view Im).ab p.Wg o=none)/\((K i).ng=true->i=ic))/\
   (∀i i' j,0<i->i<gs.size->0<i'->i'<gs.size->(K i).idx=some j->(K i').idx=some j->i=i')/\
   (∀j S,p.Ss[j]?=some S->S≠[]->∃i,0<i/\i<gs.size/\(K i).idx=some j)/\
   (if p.recv then(V.own p.c=none/\(∀o,V.ab p.c o=none)/\V.own p.Wg=none/\(∀o,V.ab p.Wg o=none))/\0<ic/\ic<gs.size/\(∃s,st=some s/\Mode P p.c p.Wg gs.size w gs t K ic s)
    else V.own p.c=some (.chan 0 #[] false 0 0 false)/\ic=0/\st=some .early/\(∀i,0<i->i<gs.size->(K i).idx.isSome=true\/∃q,K i=.gone q)/\(∀S∈p.Ss,S≠[])/\(sumTo gs.size λi=>(K i).cnt)=p.Ss.length)
def Bd (P:SI)(Im:cw)(ph:Option Phase)(k:GS)(d:Nat)(g:SG):Prop:=match ph with
  |some p=>k.is P p.c p.Wg Im p.Ss d g
  |none=>∃q,k=.gone q/\Y4 P q d g
theorem Inv.mk'(pos:0<gs.size)(k0:K 0=.gone 0)(d0:UT t 0=V.deaf)(di:∀i g,0<i->gs[i]?=some g->Bd P Im ph (K i) (UT t i) g)
  (hc:Core (bE V Im K) gs.size w t (sf ph) (m_ ph gs.size ic K) ic n0 W0) (hr:Rest (A2 ph) t K ic st) (hp:yY P n0 V gs w t K Im ic ph st):Inv P n0 W0 V gs w t K Im ic ph st:=by
 cases ph with
 |none=>exact⟨pos,k0,d0,di,hc,hr,hp⟩
 |some p=>exact⟨pos,k0,d0,di,hc,hr,hp⟩
theorem Inv.out(h:Inv P n0 W0 V gs w t K Im ic ph st):(∀i g,0<i->gs[i]?=some g->Bd P Im ph (K i) (UT t i) g)/\Core (bE V Im K) gs.size w t (sf ph) (m_ ph gs.size ic K) ic n0 W0/\Rest (A2 ph) t K ic st/\yY P n0 V gs w t K Im ic ph st:=by
 cases ph with
 |none=>exact⟨h.is,h.core,h.rest,h.phase⟩
 |some p=>exact⟨h.is,h.core,h.rest,h.phase⟩
theorem af9{y:SG}(hy:y.status=.blocked->y.offers=none):(y.again w').status=.blocked->(y.again w').offers=none:=by
 obtain⟨f,cs,s,d,o⟩:=y;unfold YR;cases s<;>cases o<;>simp_all
theorem aga{g g' y:SG}(hy:y.status=.blocked->y.offers=none)(hb:(woken P g g' w' y).status=.blocked):(woken P g g' w' y).offers=none:=by
 unfold woken at hb⊢;split
 ·rename_i hh;rw[if_pos hh]at hb;exact af9 hy hb
 ·rename_i hh;rw[if_neg hh]at hb;exact hy hb
theorem Inv.aa5(h:Inv P n0 W0 V gs w t K Im ic ph st){i:Nat}{gi bC:SG}{es:Array Ur}{k':GS}(hi:0<i)(aM:gs[i]?=some gi)(aQ:stepG P false gi w=.go bC w' es)
  (hk:Bd P Im ph k' (deafBehind (UT t i) es) bC) (s_:bC.status=.blocked->bC.offers=none) (gJ:∀p,ph=some p->(∃n,w'.heap[p.c]?=some (.chan 0 #[] false n n false))\/(∀j,0<j->j<gs.size->j≠i->(K j).idx=none))
  (xO:Core (bE V Im (upd K i k')) gs.size w' (t++Ta i gi.frame.fn gi.frame.place es) (sf ph) (m_ ph gs.size ic (upd K i k')) ic n0 W0)
  (lP:Rest (A2 ph) (t++Ta i gi.frame.fn gi.frame.place es) (upd K i k') ic st')
  (CM:yY P n0 V ((gs.map (woken P gi bC w')).setIfInBounds i bC) w' (t++Ta i gi.frame.fn gi.frame.place es) (upd K i k') Im ic ph st')
  (jH:Bm gs.size ((λj=>(upd K i k' j).c_),flag ((gs.map (woken P gi bC w')).setIfInBounds i bC) ic) ((λj=>(K j).c_),flag gs ic))
  (po:∀g c,(∀p,ph=some p->p.c=c)->H_ gs ((gs.map (woken P gi bC w')).setIfInBounds i bC) w w' g c):gB P n0 W0 V gs w sl t K Im ic ph st i:=by
 have hlt:i<gs.size:=(SS.1 aM).1;have eT:(i==0)=false:=by simp;omega
 have aV:((gs.map (woken P gi bC w')).setIfInBounds i bC).size=gs.size:=by simp
 have CW:∀op∈Ta i gi.frame.fn gi.frame.place es,op.g=i:=λop ay=>by obtain⟨e,_,rfl⟩:=TM ay;rfl
 refine⟨_,w',_,upd K i k',st',runT_crowd_go (P:=P) (sl:=sl) aM (by rw[eT];exact aQ),aV,?_,po,?_,jH⟩
 rotate_left
 ·intro g c _ hc j x hj hx hb;rcases getElem?_next hlt hx with⟨_,rfl⟩|⟨_,y,hy,rfl⟩
  ·exact s_ hb
  ·exact aga (hc j y hj hy) hb
 refine Inv.mk' (by rw[aV];exact h.pos) (by rw[ba _ _ (by omega)];exact h.k0) ?_ (λj x hj hx=> ?_) (by rw[aV];exact xO) lP CM
 ·rw[at3 t (g:=0) (g':=i) (by omega) _ CW];exact h.d0
 ·rcases getElem?_next hlt hx with⟨rfl,rfl⟩|⟨cp,y,hy,rfl⟩
  ·rw[bx,Deaf_own];exact hk
  ·rw[ba _ _ cp,at3 t (g:=j) (g':=i) (Ne.symm cp) _ CW];have C4:=h.out.1 j y hj hy;have KN:j<gs.size:=(SS.1 hy).1;cases ph with
   |none=>
    obtain⟨q,hq,pC⟩:=C4;exact⟨q,hq,by rw[woken_quitsD pC];exact pC⟩
   |some p=>
    refine aas ?_ C4;rcases gJ p rfl with x|x
    ·exact .inl x
    ·exact .inr (x j hj KN cp)
theorem Inv.next(h:Inv P n0 W0 V gs w t K Im ic ph st){i:Nat}{gi bC:SG}{es:Array Ur}{k':GS}(hi:0<i)(aM:gs[i]?=some gi)(aQ:stepG P false gi w=.go bC w' es)
  (hk:Bd P Im ph k' (deafBehind (UT t i) es) bC) (s_:bC.status=.blocked->bC.offers=none) (gJ:∀p,ph=some p->(∃n,w'.heap[p.c]?=some (.chan 0 #[] false n n false))\/(∀j,0<j->j<gs.size->j≠i->(K j).idx=none))
  (xO:Core (bE V Im (upd K i k')) gs.size w' (t++Ta i gi.frame.fn gi.frame.place es) (sf ph) (m_ ph gs.size ic (upd K i k')) ic n0 W0)
  (lP:Rest (A2 ph) (t++Ta i gi.frame.fn gi.frame.place es) (upd K i k') ic st')
  (CM:yY P n0 V ((gs.map (woken P gi bC w')).setIfInBounds i bC) w' (t++Ta i gi.frame.fn gi.frame.place es) (upd K i k') Im ic ph st')
  (uS:qU k'.c_ (K i).c_)
  (po:∀g c,(∀p,ph=some p->p.c=c)->H_ gs ((gs.map (woken P gi bC w')).setIfInBounds i bC) w w' g c):gB P n0 W0 V gs w sl t K Im ic ph st i:=
 h.aa5 hi aM aQ hk s_ gJ xO lP CM (.inl ⟨i,(SS.1 aM).1,by simpa only[bx]using uS,λj hj=>by show (upd K i k' j).c_=(K j).c_;rw[ba _ _ hj]⟩) po
theorem ann{B:Nat}{e:Ur}(h:e.mute=true):(Ts e).touch?=none/\(Ts e).low B/\∀a,Ts e≠ .mark (.release a):=by
 refine⟨ZT h,low_mute h B,λa=> ?_⟩;obtain⟨l,wr,sy⟩:=e;cases l with
 |mark m=>cases m<;>cases wr<;>cases sy<;>simp_all[Ts,WH]
 |_=>simp[WH]at h
theorem Mode.keep{c Wg N:Nat}{gs':Array SG}{u:Um}{K':Nat->GS}{s:eg}(h:Mode P c Wg N w gs t K ic s)(hs:∀j,(K' j).shape=(K j).shape)(hc:w'.heap[c]?=w.heap[c]?)(hW:w'.heap[Wg]?=w.heap[Wg]?)
  (hr:(∀g,gs[ic]?=some g->g.status=.running)->∀g,gs'[ic]?=some g->g.status=.running):Mode P c Wg N w' gs' (t++u) K' ic s:=by
 have e1:sumTo N (λi=>(K' i).cnt)=sumTo N λi=>(K i).cnt:=Vp λi _=>by rw[<- GS.nh,hs i,GS.nh]
 have e2:sumTo N (λi=>(K' i).late)=sumTo N λi=>(K i).late:=Vp λi _=>by rw[<- GS.mu,hs i,GS.mu]
 have e3:∀st sm,WgAt P Wg w' st sm=WgAt P Wg w st sm:=λst sm=>by unfold WgAt;rw[hW]
 unfold Mode at h⊢;simp only[e1,e2,e3,hs,hc];rcases h with h|h|h|h|h|h|h
 ·exact .inl h
 ·exact .inr (.inl h)
 ·exact .inr (.inr (.inl h))
 ·exact .inr (.inr (.inr (.inl ⟨h.1,h.2.1,h.2.2.1,h.2.2.2.1,h.2.2.2.2.1,hr h.2.2.2.2.2.1,h.2.2.2.2.2.2⟩)))
 ·exact .inr (.inr (.inr (.inr (.inl h))))
 ·exact .inr (.inr (.inr (.inr (.inr (.inl h)))))
 ·obtain⟨⟨p,n,a,b,c',d⟩,e⟩:=h;exact .inr (.inr (.inr (.inr (.inr (.inr ⟨⟨p,n,a,by rw[X0 (Wb b)];exact b,(Wr (Wb b)).2 c',d⟩,e⟩)))))
theorem ab2{i:Nat}{gi bC:SG}(hlt:i<gs.size)(hg:bC.status=.running)(h:∀g,gs[ic]?=some g->g.status=.running):∀g,((gs.map (woken P gi bC w')).setIfInBounds i bC)[ic]?=some g->g.status=.running:=by
 intro g Ku;rcases getElem?_next hlt Ku with⟨_,rfl⟩|⟨_,y,hy,rfl⟩
 ·exact hg
 ·rw[Yh (h y hy)];exact h y hy
theorem GS.aan{k:GS}(h:k.cnt=0):k.idx=none:=by
 cases k<;>first|rfl|(simp[GS.cnt]at h)
theorem Inv.opens(h:Inv P n0 W0 V gs w t K Im ic ph st){p:Phase}(hp:ph=some p):(∃n,w.heap[p.c]?=some (.chan 0 #[] false n n false))\/((∀j,0<j->j<gs.size->(K j).idx=none)/\(∃n,w.heap[p.c]?=some (.chan 0 #[] true n n false))/\p.recv=true):=by
 subst hp;obtain⟨_,hc,_,gK⟩:=h.out;obtain⟨_,_,_,_,_,_,_,_,_,hx⟩:=gK;by_cases hr:p.recv=true
 ·rw[if_pos hr]at hx;obtain⟨_,_,_,s,_,hm⟩:=hx;rcases hm with h|h|h|h|h|h|h
  ·exact .inl h.1
  ·exact .inl h.1
  ·exact .inl h.1
  ·exact .inl h.1
  ·exact .inl h.1
  ·exact .inl h.1
  ·obtain⟨⟨_,n,_,_,_,hn⟩,_,gT,_⟩:=h;refine .inr ⟨λj hj iC=> ?_,⟨n,hn⟩,hr⟩;have hle:(K j).cnt<=sumTo gs.size λi=>(K i).cnt:=WE (f:=λi=>(K i).cnt) iC;exact GS.aan (by omega)
 ·rw[if_neg hr]at hx;have:=(hc.sat 0 h.pos).own p.c _ (by simp only[bE,if_true];exact hx.1);exact .inl ⟨0,this⟩
theorem Inv.slip(h:Inv P n0 W0 V gs w t K Im ic ph st){i:Nat}{gi bC:SG}{es:Array Ur}{k':GS}(hi:0<i)(aM:gs[i]?=some gi)(aQ:stepG P false gi w=.go bC w es)(jH:∀e∈es,e.mute=true)
  (hk:Bd P Im ph k' (deafBehind (UT t i) es) bC) (s_:bC.status=.blocked->bC.offers=none) (dK:k'.shape=(K i).shape) (mm:k'.view Im=(K i).view Im) (bH:(K i).shape=.ig 0\/(K i).shape=.said 0->bC.status=.running) (uS:qU k'.c_ (K i).c_):gB P n0 W0 V gs w sl t K Im ic ph st i:=by
 have hlt:i<gs.size:=(SS.1 aM).1;obtain⟨_,hc,hr,hp⟩:=h.out;have cZ:∀j,((upd K i k') j).idx=(K j).idx:=λj=>by
  by_cases hj:j=i
  ·subst hj;rw[bx,<- GS.Gm,dK,GS.Gm]
  ·rw[ba _ _ hj]
 have lQ:∀j,((upd K i k') j).shape=(K j).shape:=λj=>by
  by_cases hj:j=i
  ·subst hj;rw[bx,dK]
  ·rw[ba _ _ hj]
 have aak:∀j,((upd K i k') j).view Im=(K j).view Im:=λj=>by
  by_cases hj:j=i
  ·subst hj;rw[bx,mm]
  ·rw[ba _ _ hj]
 have o6:∀j,((upd K i k') j).cnt=(K j).cnt:=λj=>by rw[<- GS.nh,lQ,GS.nh]
 have wq:∀j,((upd K i k') j).late=(K j).late:=λj=>by rw[<- GS.mu,lQ,GS.mu]
 refine h.next (st':=st) hi aM aQ hk s_ (λp z_=>(h.opens z_).imp id λx j a b _=>x.1 j a b) ?_ ?_ ?_ uS ?_
 ·refine((hc.quiet hlt (λe he=>ann (jH e he)) gi.frame.fn gi.frame.place).congr λj hj=> ?_).BC λj hj=> ?_
  ·simp only[bE,aak]
  ·cases ph with
   |none=>exact hj
   |some p=>simpa only[m_,ja,cZ,o6,wq]using hj
 ·cases st with
  |none=>
   intro idx a ha hm;have gk:=A0 (λop ay=>by obtain⟨e,he,rfl⟩:=TM ay;exact ZT (jH e he)) ha;obtain⟨op,ay,_⟩:=UU gk;rcases hr idx a gk hm with x|⟨x,y⟩|⟨_,z,_⟩
   ·exact .inl (x.app _)
   ·exact .inr (.inl ⟨x,λz=>y ((Wr (TJ ay)).1 z)⟩)
   ·cases z
  |some s=>
   refine hr.app (λidx a ha hx=> .inr (hx.app (by obtain⟨op,ay,_⟩:=UU ha;exact TJ ay) λj _ _ hj=> .inl (by rw[cZ];exact hj))) (λidx a _ ⟨op,ay,_,hx⟩ _=> ?_);obtain⟨e,he,rfl⟩:=TM ay;rw[ZT (jH e he)]at hx;cases hx
 ·cases ph with
  |none=>exact hp
  |some p=>
   obtain⟨a1,a2,a3,a4,a5,a6,a7,a8,a9,bR⟩:=hp;refine⟨a1,a2,a3,a4,a5,a6,λj hj=>by rw[aak,<- GS.Pf,lQ,GS.Pf];exact a7 j hj,λj j' m b1 b2 b3 b4 b5 b6=>a8 j j' m b1 (by simpa using b2) b3 (by simpa using b4) (by rw[<- cZ];exact b5) (by rw[<- cZ];exact b6),λj S b1 b2=> ?_,?_⟩
   ·obtain⟨m,c1,c2,c3⟩:=a9 j S b1 b2;exact⟨m,c1,by simpa using c2,by rw[cZ];exact c3⟩
   ·split
    ·rename_i aG;rw[if_pos aG]at bR;obtain⟨c1,c2,c3,s,c4,c5⟩:=bR;refine⟨c1,c2,by simpa using c3,s,c4,?_⟩;have aV:((gs.map (woken P gi bC w)).setIfInBounds i bC).size=gs.size:=(by simp);rw[aV];by_cases fS:i=ic/\bC.status≠ .running
     ·
      obtain⟨rfl,rJ⟩:=fS;unfold Mode at c5⊢;have e1:sumTo gs.size (λj=>((upd K i k') j).cnt)=sumTo gs.size λj=>(K j).cnt:=Vp λj _=>o6 j;have e2:sumTo gs.size (λj=>((upd K i k') j).late)=sumTo gs.size λj=>(K j).late:=Vp λj _=>wq j;simp only[e1,e2,lQ];rcases c5 with h|h|h|h|h|h|h
      ·exact .inl h
      ·exact .inr (.inl h)
      ·exact .inr (.inr (.inl h))
      ·exact absurd (bH h.2.2.2.2.2.2.symm) rJ
      ·exact .inr (.inr (.inr (.inr (.inl h))))
      ·exact .inr (.inr (.inr (.inr (.inr (.inl h)))))
      ·obtain⟨⟨p,n,a,b,c',d⟩,e⟩:=h;exact .inr (.inr (.inr (.inr (.inr (.inr ⟨⟨p,n,a,by rw[X0 (Wb b)];exact b,(Wr (Wb b)).2 c',d⟩,e⟩)))))
     ·refine c5.keep lQ rfl rfl λrM g hg=> ?_;rcases getElem?_next hlt hg with⟨rfl,rfl⟩|⟨_,y,hy,rfl⟩
      ·exact Tm λx=>fS ⟨rfl,x⟩
      ·rw[Yh (rM y hy)];exact rM y hy
    ·rename_i aG;rw[if_neg aG]at bR;refine⟨bR.1,bR.2.1,bR.2.2.1,λj b1 b2=> ?_,bR.2.2.2.2.1,?_⟩
     rotate_left
     ·rw[show ((gs.map (woken P gi bC w)).setIfInBounds i bC).size=gs.size by simp,Vp λj _=>o6 j];exact bR.2.2.2.2.2
     rcases bR.2.2.2.1 j b1 (by simpa using b2)with x|⟨q,x⟩
     ·exact .inl (by rw[cZ];exact x)
     ·by_cases hj:j=i
      ·subst hj;rw[bx];rw[x]at dK;cases k'<;>simp[GS.shape]at dK;exact .inr ⟨_,rfl⟩
      ·rw[ba _ _ hj];exact .inr ⟨q,x⟩
 ·intro g c _;exact⟨MC hi,λjh ho=> .inr ⟨MU hi jh ho,ho⟩⟩
end
section
variable {P:SI}{n0:Nat}{W0:Tp}{V:View}{gs:Array SG}{w w':Tp}{sl:Option (Nat×Nat)}{t:Um}{K:Nat->GS}{Im:cw}{ic:Nat}{p:Phase}{st st':Option eg}
def jq (p:Phase)(U:View):Prop:=U.own p.c=none/\(∀o,U.ab p.c o=none)/\U.own p.Wg=none/\(∀o,U.ab p.Wg o=none)
theorem jq.step{U U':View}{es:Array Ur}(b:jq p U)(s:dg U w U' w' es)(hc:p.c<w.heap.size)(hW:p.Wg<w.heap.size):jq p U':=by
 have key:∀b,b<w.heap.size->U.own b=none->(∀o,U.ab b o=none)->U'.own b=none/\∀o,U'.ab b o=none:=by
  intro b hb ho hi;refine⟨s.own b hb ho,λo=> ?_⟩;cases e:U'.ab b o with
  |none=>rfl
  |some v=>
   rcases s.kL b o v e with x|x|x
   ·rw[hi o]at x;cases x
   ·exact absurd ho x
   ·omega
 have k1:=key p.c hc b.1 b.2.1;have k2:=key p.Wg hW b.2.2.1 b.2.2.2;exact⟨k1.1,k1.2,k2.1,k2.2⟩
theorem jq.Ax{U:View}(b:jq p U){l:Loc}(h:gN U l):¬qW p.c p.Wg l:=by
 intro hs;cases l with
 |cell a=>
  have e:a.block=p.Wg:=hs;rcases h with h|h
  ·exact h (by rw[e];exact b.2.2.1)
  ·exact h (by rw[e];exact b.2.2.2 _)
 |obj r=>have e:r=p.c:=hs;exact h (by rw[e];exact b.1)
 |_=>exact hs
theorem jq.ghost{U U':View}(b:jq p U)(g:dR U U'):jq p U':=by
 have key:∀b,U.own b=none->(∀o,U.ab b o=none)->U'.own b=none/\∀o,U'.ab b o=none:=by
  intro b ho hi;refine⟨g.own b ho,λo=> ?_⟩;cases e:U'.ab b o with
  |none=>rfl
  |some v=>
   rcases g.kL b o v e with x|x
   ·rw[hi o]at x;cases x
   ·exact absurd ho x
 have k1:=key p.c b.1 b.2.1;have k2:=key p.Wg b.2.2.1 b.2.2.2;exact⟨k1.1,k1.2,k2.1,k2.2⟩
theorem afQ:jq p noView:=⟨rfl,λ_=>rfl,rfl,λ_=>rfl⟩
theorem Inv.blind(h:Inv P n0 W0 V gs w t K Im ic (some p) st){i:Nat}(hi:0<i):jq p ((K i).view Im):=let x:=h.phase.2.2.2.2.2.2.1 i hi;⟨x.1,x.2.1,x.2.2.1,x.2.2.2.1⟩
theorem Inv.sh(h:Inv P n0 W0 V gs w t K Im ic (some p) st){i:Nat}(hi:0<i)(hc:(K i).ng=true):i=ic:=(h.phase.2.2.2.2.2.2.1 i hi).2.2.2.2 hc
theorem Inv.low(h:Inv P n0 W0 V gs w t K Im ic (some p) st):p.c<w.heap.size/\p.Wg<w.heap.size:=⟨h.phase.2.2.2.1,h.phase.2.2.2.2.1⟩
theorem acv(hc:p.c<w.heap.size)(hW:p.Wg<w.heap.size){l:Loc}(h:qW p.c p.Wg l):l.low w.heap.size:=by
 cases l with
 |cell a=>show a.block<_;rw[show a.block=p.Wg from h];exact hW
 |obj r=>show r<_;rw[show r=p.c from h];exact hc
 |_=>exact h.elim
theorem Inv.agx(h:Inv P n0 W0 V gs w t K Im ic (some p) st)(hr:p.recv=true){i:Nat}(hlt:i<gs.size)(hk:(K i).cnt=1):∃s,WgAt P p.Wg w s 0:=by
 obtain⟨_,_,_,_,_,_,_,_,_,hx⟩:=h.phase;rw[if_pos hr]at hx;obtain⟨_,_,_,s,hs,hm⟩:=hx;have hle:(K i).cnt<=sumTo gs.size λi=>(K i).cnt:=WE (f:=λi=>(K i).cnt) hlt;rcases hm with h|h|h|h|h|h|h
 ·exact⟨_,h.2.2.2.2.1⟩
 ·exact⟨_,h.2.2.2.2.2.1⟩
 ·have:=h.2.2.2.1;omega
 ·have:=h.2.2.2.1;omega
 ·have:=h.2.2.2.1;omega
 ·have:=h.2.2.2.1;omega
 ·have:=h.2.2.1;omega
theorem Inv.Oo(h:Inv P n0 W0 V gs w t K Im ic (some p) st)(hr:p.recv=true){n:Nat}(hk:K ic=.acq n\/K ic=.said n):∃x y,WgAt P p.Wg w x y:=by
 obtain⟨_,_,_,_,_,_,_,_,_,hx⟩:=h.phase;rw[if_pos hr]at hx;obtain⟨_,_,_,s,hs,hm⟩:=hx;unfold Mode at hm;rcases hm with h|h|h|h|h|h|h
 ·exact⟨_,_,h.2.2.2.2.1⟩
 ·exact⟨_,_,h.2.2.2.2.2.1⟩
 ·have key:∀N,0<(sumTo N λi=>(K i).late)->∃i,i<N/\(K i).late≠0:=by
   intro N;induction N with
   |zero=>intro h;exact absurd h (by simp[sumTo])
   |succ N ih=>
    intro h;by_cases h0:(K N).late=0
    ·simp only[sumTo,h0]at h;obtain⟨i,hi,hl⟩:=ih (by omega);exact⟨i,by omega,hl⟩
    ·exact⟨N,by omega,h0⟩
  have:=key gs.size (by have:=h.2.2.1;omega);obtain⟨i,hi,hl⟩:=this;cases k_:K i<;>rw[k_]at hl<;>first
   |exact⟨_,_,h.2.2.2.2.2.1 i hi (by rw[k_];exact .inl rfl)⟩
   |exact⟨_,_,h.2.2.2.2.2.1 i hi (by rw[k_];exact .inr rfl)⟩
   |exact⟨_,_,h.2.2.2.2.2.2 i hi (by rw[k_];rfl)⟩
   |exact absurd rfl hl
 ·exact⟨_,_,h.2.2.2.2.1⟩
 ·exact⟨_,_,h.2.2.2.2.1⟩
 ·exfalso;rcases hk with hk|hk<;>rw[hk]at h<;>rcases h.2.2.2.2 with h|h<;>cases h
 ·exfalso;rcases hk with hk|hk<;>rw[hk]at h<;>cases h.2.2.2
theorem Inv.counted(h:Inv P n0 W0 V gs w t K Im ic (some p) st){i:Nat}(_hi:0<i)(hlt:i<gs.size)(hk:(K i).cnt=1):(∃n,w.heap[p.c]?=some (.chan 0 #[] false n n false))/\st=some .early:=by
 have gK:=h.phase;obtain⟨_,_,_,_,_,_,_,_,_,hx⟩:=gK;by_cases hr:p.recv=true
 ·rw[if_pos hr]at hx;obtain⟨_,_,_,s,hs,hm⟩:=hx;have hle:(K i).cnt<=sumTo gs.size λi=>(K i).cnt:=WE (f:=λi=>(K i).cnt) hlt;rcases hm with h|h|h|h|h|h|h
  ·exact⟨h.1,by rw[hs,h.2.1]⟩
  ·exact⟨h.1,by rw[hs,h.2.1]⟩
  ·exact⟨h.1,by rw[hs,h.2.1]⟩
  ·exact⟨h.1,by rw[hs,h.2.1]⟩
  ·exact⟨h.1,by rw[hs,h.2.1]⟩
  ·have:=h.2.2.2.1;omega
  ·have:=h.2.2.1;omega
 ·rw[if_neg hr]at hx;have:=(h.core.sat 0 h.pos).own p.c _ (by simp only[bE,if_true];exact hx.1);exact⟨⟨0,this⟩,hx.2.2.1⟩
theorem Inv.MW(h:Inv P n0 W0 V gs w t K Im ic (some p) st){i:Nat}{k':GS}{gs':Array SG}{t':Um}(aV:gs'.size=gs.size)(iR:w.heap.size<=w'.heap.size)(hb:jq p (k'.view Im))(xM:k'.ng=true->i=ic)
  (cZ:k'.idx=(K i).idx\/(k'.idx=none/\∀j,(K i).idx=some j->p.Ss[j]?=some []))
  (dY:if p.recv then∃s,st'=some s/\Mode P p.c p.Wg gs.size w' gs' t' (upd K i k') ic s
    else st'=some .early/\k'.idx.isSome=true/\k'.cnt=(K i).cnt):yY P n0 V gs' w' t' (upd K i k') Im ic (some p) st':=by
 obtain⟨a1,a2,a3,a4,a5,a6,a7,a8,a9,bR⟩:=h.phase;have qk:∀j m,((upd K i k') j).idx=some m->(K j).idx=some m:=by
  intro j m hj;by_cases cp:j=i
  ·subst cp;rw[bx]at hj;rcases cZ with x|⟨x,_⟩
   ·rw[<- x];exact hj
   ·rw[x]at hj;cases hj
  ·rw[ba _ _ cp]at hj;exact hj
 refine⟨a1,a2,a3,Td a4 iR,Td a5 iR,a6,λj hj=> ?_,λj j' m b1 b2 b3 b4 b5 b6=>a8 j j' m b1 (aV▸b2) b3 (aV▸b4) (qk _ _ b5) (qk _ _ b6),λj S b1 b2=> ?_,?_⟩
 ·by_cases cp:j=i
  ·subst cp;rw[bx];exact⟨hb.1,hb.2.1,hb.2.2.1,hb.2.2.2,xM⟩
  ·rw[ba _ _ cp];exact a7 j hj
 ·obtain⟨m,c1,c2,c3⟩:=a9 j S b1 b2;refine⟨m,c1,by rw[aV];exact c2,?_⟩;by_cases cV:m=i
  ·subst cV;rw[bx];rcases cZ with x|⟨_,x⟩
   ·rw[x];exact c3
   ·have:=x j c3;rw[this]at b1;cases b1;exact absurd rfl b2
  ·rw[ba _ _ cV];exact c3
 ·split
  ·rename_i aG;rw[if_pos aG]at bR dY;obtain⟨c1,c2,c3,_⟩:=bR;exact⟨c1,c2,by rw[aV];exact c3,by rw[aV];exact dY⟩
  ·rename_i aG;rw[if_neg aG]at bR dY;obtain⟨c1,c2,_,c4,c5⟩:=bR;refine⟨c1,c2,dY.1,λj b1 b2=> ?_,c5.1,by rw[aV,lA K k' GS.cnt dY.2.2];exact c5.2⟩;by_cases cp:j=i
   ·subst cp;rw[bx];exact .inl dY.2.1
   ·rw[ba _ _ cp];exact c4 j b1 (aV▸b2)
theorem Inv.adw(h:Inv P n0 W0 V gs w t K Im ic (some p) st){i j:Nat}{gi bC:SG}{es:Array Ur}{hh h':Ht}{Vi V':View}(hi:0<i)(aM:gs[i]?=some gi)(hK:K i=.work j hh Vi)(aQ:stepG P false gi w=.go bC w' es)
  (s:dg Vi w V' w' es) (hk:lF P h' V' bC) (mh:Bc h' hh):gB P n0 W0 V gs w sl t K Im ic (some p) st i:=by
 have hlt:i<gs.size:=(SS.1 aM).1;have di:=h.is i gi hi aM;simp only[hK,GS.is]at di;obtain⟨hd,_,S,hS,ji⟩:=di;have gT:(K i).cnt=1:=by rw[hK];rfl
 obtain⟨⟨n,gJ⟩,lq⟩:=h.counted hi hlt gT;have ij:=h.low;have cO:jq p Vi:=by have:=h.blind hi;rw[hK]at this;exact this
 have ajM:=cO.step s ij.1 ij.2;have mm:bE V Im K i=Vi:=by simp[bE,hK,GS.view];omega
 have eI:w'.heap[p.c]?=w.heap[p.c]?:=s.frame p.c ij.1 cO.1;have hWh:w'.heap[p.Wg]?=w.heap[p.Wg]?:=s.frame p.Wg ij.2 cO.2.2.1;have lQ:∀m,((upd K i (.work j h' V')) m).shape=(K m).shape:=λm=>by
  by_cases hm:m=i
  ·subst hm;rw[bx,hK];rfl
  ·rw[ba _ _ hm]
 have cZ:∀m,((upd K i (.work j h' V')) m).idx=(K m).idx:=λm=>by rw[<- GS.Gm,lQ,GS.Gm]
 have o6:∀m,((upd K i (.work j h' V')) m).cnt=(K m).cnt:=λm=>by rw[<- GS.nh,lQ,GS.nh]
 have wq:∀m,((upd K i (.work j h' V')) m).late=(K m).late:=λm=>by rw[<- GS.mu,lQ,GS.mu]
 have b8:V'.role=Vi.role:=s.role;refine h.next (k':=.work j h' V') (st':=st) hi aM aQ ⟨by rw[hd,s.deaf],hk,S,hS,b8.trans ji⟩ (λx=>by rw[hk.running]at x;cases x) (λq hq=>by cases hq;exact .inl ⟨n,by rw[eI];exact gJ⟩) ?_ ?_ ?_ ?_ ?_
 ·rw[NQ V Im K hi];refine(Core.step (V':=V') h.core hlt (by rw[mm];exact s) (λe he x hx hs=> ?_) gi.frame.fn gi.frame.place).BC λm hm=> ?_
  ·exfalso;rcases(I9 (s.ff e he) hx).1 with y|⟨y,_⟩|y
   ·exact cO.Ax y.rd hs
   ·exact cO.Ax y hs
   ·exact y (acv ij.1 ij.2 hs)
  ·simpa only[m_,ja,cZ,o6,wq]using hm
 ·rw[lq];have hr:Rest (A2 (some p)) t K ic st:=h.out.2.2.1;rw[lq]at hr;refine hr.app (λidx a ha hx=> .inr (hx.app (by obtain⟨op,ay,_⟩:=UU ha;exact TJ ay) λm _ _ hm=> .inl (by rw[cZ];exact hm))) (λidx a _ ⟨op,ay,xS,_⟩ _=> .inr (.inr ⟨i,?_,hi,.inl ?_⟩))
  ·obtain⟨e,_,rfl⟩:=TM ay;simp[WB,xS]
  ·rw[bx];rfl
 ·refine h.MW (by simp) s.size ajM (λx=>by cases x) (.inl (by rw[hK];rfl)) ?_;have hx:=h.phase.2.2.2.2.2.2.2.2.2;split
  ·rename_i aG;rw[if_pos aG]at hx;obtain⟨_,_,_,s',pw,hm⟩:=hx;exact⟨s',pw,hm.keep lQ eI hWh λrM=>ab2 hlt hk.running rM⟩
  ·exact⟨lq,rfl,by rw[hK];rfl⟩
 ·rw[hK];refine .inr ⟨by simp[GS.c_,b8],.inl mh⟩
 ·intro g c Kf;have ho:yX w' c:=⟨n,by rw[<- Kf p rfl,eI];exact gJ⟩;exact⟨MC hi,λjh _=> .inr ⟨MU hi jh ho,ho⟩⟩
end
def nO (V:View)(I':cw)(O':Bp)(r:mY):View:=
 {V with ab:=λb o=>match V.ab b o with|some x=>some x|none=>I' b o,own:=λb=>match V.own b with|some x=>some x|none=>O' b,role:=r}
def lZ (B:Nat->Bool)(U:View):Bp:=λb=>if B b then U.own b else none
def lW (B:Nat->Bool)(U:View)(r:mY):View:={U with own:=λb=>if B b then none else U.own b,role:=r}
section
variable {P:SI}{n0:Nat}{W0:Tp}{V:View}{gs gs':Array SG}{w w':Tp}{sl:Option (Nat×Nat)}{t:Um}{K:Nat->GS}{Im:cw}{ic:Nat}{p:Phase}{st:Option eg}
theorem abp{k:GS}{d:Nat}{x:SG}(h:k.is P p.c p.Wg Im p.Ss d x)(r:Nat):offersAt x r false=[]:=by
 rcases GS.runs h with hr|⟨hf,_⟩|⟨j,h',V,V',g0,v,z,rfl⟩|⟨_,hb,ho⟩
 ·exact UV (by rw[hr];simp) r false
 ·exact UV (by rw[hf];simp) r false
 ·obtain⟨_,_,rfl,_⟩:=h;exact offersAt_parked_send' _ _ _ _ _ _
 ·unfold offersAt;simp[hb,ho]
theorem am4{g:SG}(h:kC gs g){x:SG}(hx:gs[0]?=some x)(r:Nat)(s:Bool):offersAt x r s=[]:=by
 obtain⟨g0,h0,h1,_⟩:=h;rw[h0]at hx;cases hx;exact UV (by rw[h1];simp) r s
theorem Inv.ase(h:Inv P n0 W0 V gs w t K Im ic (some p) st){g:SG}(hm:kC gs g){i j:Nat}{gi:SG}{hh h':Ht}{Vi V₁:View}{sp:Spec}{S:List Spec}{v z:SP}{B:Nat->Bool}(hi:0<i)(aM:gs[i]?=some gi)
  (hK:K i=.work j hh Vi) (hg:dR Vi V₁) (hr:V₁.role=.work p.c p.Wg (sp::S)) (hd:V₁.deaf=0) (aQ:stepG P false gi w=.comm gi #[scase p.c v z] true .send w #[])
  (x9:sp v V₁.ab (lZ B V₁)) (hk:lF P h' (lW B V₁ (.work p.c p.Wg S)) (T5 gi undef)):gB P n0 W0 V gs w sl t K Im ic (some p) st i:=by
 have hlt:i<gs.size:=(SS.1 aM).1;have di:=h.is i gi hi aM;simp only[hK,GS.is]at di;obtain⟨bz,_,S',hS,ji⟩:=di;have gT:(K i).cnt=1:=by rw[hK];rfl
 obtain⟨⟨n,gJ⟩,lq⟩:=h.counted hi hlt gT;have eT:(i==0)=false:=by simp;omega
 have er:mY.work p.c p.Wg S'=.work p.c p.Wg (sp::S):=by rw[<- ji,<- hg.role,hr]
 cases er;let k':GS:=.nT j h' V₁ (lW B V₁ (.work p.c p.Wg S)) gi v z;have hw:=crowd_waits (P:=P) (sl:=sl) (i:=i) aM (by rw[eT];exact aQ) (λcc jf=>by
  simp only[TK,SK,S0,or_false]at jf;subst jf;refine ways_send_none gJ (by simp) (partners_nil λm x hx=> ?_);rcases X6 gs i m x hx with⟨_,rfl⟩|⟨_,jK⟩
  ·exact Zl _ _
  ·rcases UH m with rfl|iT
   ·exact am4 hm jK _ _
   ·exact abp (h.is m x iT jK) _)
 have mm:bE V Im K i=Vi:=by simp[bE,hK,GS.view];omega
 have cO:jq p Vi:=by have:=h.blind hi;rw[hK]at this;exact this
 have cZ:∀m,((upd K i k') m).idx=(K m).idx:=λm=>by
  by_cases hm:m=i
  ·subst hm;rw[bx,hK];rfl
  ·rw[ba _ _ hm]
 have lQ:∀m,((upd K i k') m).shape=(K m).shape:=λm=>by
  by_cases hm:m=i
  ·subst hm;rw[bx,hK];rfl
  ·rw[ba _ _ hm]
 have o6:∀m,((upd K i k') m).cnt=(K m).cnt:=λm=>by rw[<- GS.nh,lQ,GS.nh]
 have wq:∀m,((upd K i k') m).late=(K m).late:=λm=>by rw[<- GS.mu,lQ,GS.mu]
 have e0:t++Ta i gi.frame.fn gi.frame.place #[]=t:=by simp[Ta]
 have aV:(gs.setIfInBounds i (parked gi #[scase p.c v z] .send)).size=gs.size:=by simp
 refine⟨_,w,_,upd K i k',st,hw,aV,?_,λg' c _=>⟨λ⟨g0,a,b⟩=>⟨g0,by rw[SU (by omega)];exact a,b⟩,λ⟨g0,z',a,b⟩ ho=> .inr ⟨⟨g0,z',by rw[SU (by omega)];exact a,b⟩,ho⟩⟩,λg' c ⟨g1,z',a,_⟩ _=>(by obtain⟨g0,h0,h1,_⟩:=hm;rw[a]at h0;cases h0;cases h1),
  .inl ⟨i,hlt,?_,λm hm=>by show (upd K i k' m).c_=(K m).c_;rw[ba _ _ hm]⟩⟩
 ·rw[e0];refine Inv.mk' (by rw[aV];exact h.pos) (by rw[ba _ _ (by omega)];exact h.k0) h.d0 (λm x hm hx=> ?_) ?_ ?_ ?_
  ·by_cases cV:m=i
   ·subst cV;rw[S_ hlt]at hx;cases hx;rw[bx];exact⟨by rw[bz,<- hg.deaf,hd],hd,rfl,hk,sp,S,B,hS,hr,x9,rfl⟩
   ·rw[SU (Ne.symm cV)]at hx;rw[ba _ _ cV];exact h.is m x hm hx
  ·rw[aV,NQ V Im K hi];exact(Core.ghost (V':=V₁) h.core hlt (by rw[mm];exact hg)).BC λm hm=>by simpa only[m_,ja,cZ,o6,wq]using hm
  ·have hr:Rest (A2 (some p)) t K ic st:=h.out.2.2.1;rw[lq]at hr⊢;have:=hr.app (u:=#[]) (K':=upd K i k') (s':=.early) (λidx a ha hx=> .inr (hx.app (by obtain⟨op,ay,_⟩:=UU ha;exact TJ ay) λm _ _ hm=> .inl (by rw[cZ];exact hm))) (λidx a _ ⟨op,ay,_⟩ _=>by simp at ay);simpa using this
  ·refine h.MW aV (SQ _) (cO.ghost hg) (λx=>by cases x) (.inl (by rw[hK];rfl)) ?_;have hx:=h.phase.2.2.2.2.2.2.2.2.2;split
   ·rename_i aG;rw[if_pos aG]at hx;obtain⟨_,gp,_,s',pw,fV⟩:=hx;refine⟨s',pw,?_⟩;have:=fV.keep (w':=w) (gs':=gs.setIfInBounds i (parked gi #[scase p.c v z] .send)) (u:=#[]) lQ rfl rfl λrM x hx=>by
     by_cases fS:ic=i
     ·subst fS;exfalso;unfold Mode at fV;have aH:∀s:GS,(K ic).shape=s->s=.work j .z noView:=λs e=>(by rw[<- e,hK];rfl);rcases fV with h|h|h|h|h|h|h
      ·rcases h.2.2.2.2.2 with⟨_,e,_⟩|⟨_,e,_⟩<;>cases aH _ e
      ·rcases h.2.2.2.2.2.2 with e|e<;>cases aH _ e
      ·rcases h.2.2.2.2.1 with e|e<;>cases aH _ e
      ·rcases h.2.2.2.2.2.2 with e|e<;>cases aH _ e
      ·rcases h.2.2.2.2.2 with e|e<;>cases aH _ e
      ·rcases h.2.2.2.2 with e|e<;>cases aH _ e
      ·cases aH _ h.2.2.2
     ·rw[SU (Ne.symm fS)]at hx;exact rM x hx
    simpa using this
   ·exact⟨lq,rfl,by rw[hK];rfl⟩
 ·show qU (upd K i k' i).c_ (K i).c_;rw[hK];refine .inl ?_;simp only[bx,k',GS.c_,hr,ji];omega
theorem Mode.al4{c Wg N:Nat}{u:Um}{K':Nat->GS}{s:eg}(h:Mode P c Wg N w gs t K ic s)(gT:1<=sumTo N λi=>(K i).cnt)(hs:∀j,(K' j).shape=(K j).shape)(ho:∃n,w'.heap[c]?=some (.chan 0 #[] false n n false)) (hW:w'.heap[Wg]?=w.heap[Wg]?):Mode P c Wg N w' gs' (t++u) K' ic s:=by
 have e1:sumTo N (λi=>(K' i).cnt)=sumTo N λi=>(K i).cnt:=Vp λi _=>by rw[<- GS.nh,hs i,GS.nh]
 have e2:sumTo N (λi=>(K' i).late)=sumTo N λi=>(K i).late:=Vp λi _=>by rw[<- GS.mu,hs i,GS.mu]
 have e3:∀st sm,WgAt P Wg w' st sm=WgAt P Wg w st sm:=λst sm=>by unfold WgAt;rw[hW]
 unfold Mode at h⊢;simp only[e1,e2,e3,hs];rcases h with h|h|h|h|h|h|h
 ·exact .inl ⟨ho,h.2⟩
 ·exact .inr (.inl ⟨ho,h.2⟩)
 ·have:=h.2.2.2.1;omega
 ·have:=h.2.2.2.1;omega
 ·have:=h.2.2.2.1;omega
 ·have:=h.2.2.2.1;omega
 ·have:=h.2.2.1;omega
theorem Inv.met(h:Inv P n0 W0 V gs w t K Im ic (some p) st)(aG:p.recv=true)(gG:V.deaf=0){i j:Nat}{h':Ht}{V₁:View}{gi:SG}{sp:Spec}{S:List Spec}{B:Nat->Bool}(hi:0<i)(hlt:i<gs.size)
  (xT:(K i).idx=some j) (hg:dR ((K i).view Im) V₁) (hr:V₁.role=.work p.c p.Wg (sp::S)) (hd:V₁.deaf=0) (kG:UT t i=0) (hS:p.Ss[j]?=some (sp::S))
  (hk:lF P h' (lW B V₁ (.work p.c p.Wg S)) (T5 gi undef)) (aV:gs'.size=gs.size) (aM:gs'[i]?=some (T5 gi undef)) (hgo:∀m,m≠i->0<m->gs'[m]?=gs[m]?)
  {u:Um} {x0 x1 x2 x3:Wc} (hu:u=#[x0,x1,x2,x3]) {s:Nat} (h0:x0.g=i/\x0.act=.send p.c s) (h1:x1.g=0/\x1.act=.recv p.c s 0) (h2:x2.g=i/\x2.act=.sendDone p.c s) (h3:x3.g=0/\x3.act=.recvDone p.c s)
  (bM:w'.heap.size=w.heap.size) (fh:∀b,b≠p.c->w'.heap[b]?=w.heap[b]?) (tJ:∃n,w'.heap[p.c]?=some (.chan 0 #[] false n n false)) (Ao:w'.tape=w.tape) (hw5:w'.os=w.os) (hw6:w'.output=w.output):
  (∀b,V.own b≠none->lZ B V₁ b=none)/\(∀b o,V.own b≠none->V₁.ab b o≠none->V.ab b o≠none)/\
  Inv P n0 W0 (nO V V₁.ab (lZ B V₁) (.recv p.c p.Wg (p.Ss.set j S))) gs' w' (t++u) (upd K i (.work j h' (lW B V₁ (.work p.c p.Wg S)))) Im ic (some {p with Ss:=p.Ss.set j S}) st:=by
 obtain⟨di,hc,lP,gK⟩:=h.out;obtain⟨a1,a2,a3,a4,a5,a6,a7,a8,a9,bR⟩:=gK;rw[if_pos aG]at bR;obtain⟨⟨c1,c2,c3,c4⟩,c5,c6,s',c7,c8⟩:=bR;have Cl:jq p V:=⟨c1,c2,c3,c4⟩;have v7:=(h.blind hi).ghost hg;have mm:bE V Im K i=(K i).view Im:=by simp[bE];omega
 have cW:bE V Im K 0=V:=by simp[bE]
 have dn:Core (upd (bE V Im K) i V₁) gs.size w t (sf (some p)) (m_ (some p) gs.size ic K) ic n0 W0:=hc.ghost hlt (by rw[mm];exact hg);have dP:Sat V₁ w:=by have:=dn.sat i hlt;rwa [bx]at this
 have db:Sat V w:=by have:=dn.sat 0 h.pos;rwa [ba _ _ (by omega),cW]at this
 have EQ:jS V V₁:=by have:=dn.dM 0 i h.pos hlt (by omega);rwa [ba _ _ (show 0≠i by omega),bx,cW]at this
 have PA:jS V₁ V:=by have:=dn.dM i 0 hlt h.pos (by omega);rwa [bx,ba _ _ (show 0≠i by omega),cW]at this
 have ake:∀b,V.own b≠none->lZ B V₁ b=none:=λb hb=>by
  unfold lZ;split
  ·exact(EQ b hb).1
  ·rfl
 refine⟨ake,λb o hb=>(EQ b hb).2 o,?_⟩;have jH:∀op∈u,op.act.touch?=none/\still op.act/\(op.g=0\/op.g=i)/\op.act.low w.heap.size/\∀a,op.act≠ .mark (.release a):=by
  intro op ay;rw[hu]at ay;simp only[TK,SK,S0,or_false]at ay;rcases ay with rfl|rfl|rfl|rfl
  ·rw[h0.2,h0.1];exact⟨rfl,⟨by simp,by simp⟩,.inr rfl,a4,by simp⟩
  ·rw[h1.2,h1.1];exact⟨rfl,⟨by simp,by simp⟩,.inl rfl,a4,by simp⟩
  ·rw[h2.2,h2.1];exact⟨rfl,⟨by simp,by simp⟩,.inr rfl,a4,by simp⟩
  ·rw[h3.2,h3.1];exact⟨rfl,⟨by simp,by simp⟩,.inl rfl,a4,by simp⟩
 have nJ:∀op∈u,still op.act:=λop ay=>(jH op ay).2.1;have uE:∀m,UT (t++u) m=UT t m:=λm=>Deaf_still nJ;have d00:UT t 0=0:=by rw[h.d0,gG]
 have cg:∀idx,Wm t i idx->Wm (t++u) 0 idx:=λidx hx=>anc hu h0 (jH x1 (by rw[hu];simp)).2.1 (jH x2 (by rw[hu];simp)).2.1 h3 kG d00 hx;let k':GS:=.work j h' (lW B V₁ (.work p.c p.Wg S));let V':View:=nO V V₁.ab (lZ B V₁) (.recv p.c p.Wg (p.Ss.set j S));have cZ:∀m,((upd K i k') m).idx=(K m).idx:=λm=>by
  by_cases hm:m=i
  ·subst hm;rw[bx,xT];rfl
  ·rw[ba _ _ hm]
 have dK:(K i).shape=.work j .z noView:=by
  cases k_:K i<;>rw[k_]at xT<;>simp[GS.idx]at xT
  ·subst xT;rfl
  ·subst xT;rfl
 have lQ:∀m,((upd K i k') m).shape=(K m).shape:=λm=>by
  by_cases hm:m=i
  ·subst hm;rw[bx,dK];rfl
  ·rw[ba _ _ hm]
 have o6:∀m,((upd K i k') m).cnt=(K m).cnt:=λm=>by rw[<- GS.nh,lQ,GS.nh]
 have wq:∀m,((upd K i k') m).late=(K m).late:=λm=>by rw[<- GS.mu,lQ,GS.mu]
 have gT:(K i).cnt=1:=by rw[<- GS.nh,dK];rfl
 have lq:=(h.counted hi hlt gT).2;have so:bE V' Im (upd K i k') 0=V':=by simp[bE]
 have wS:bE V' Im (upd K i k') i=lW B V₁ (.work p.c p.Wg S):=by simp[bE,bx,k',GS.view];omega
 have wT:∀m,m≠0->m≠i->bE V' Im (upd K i k') m=upd (bE V Im K) i V₁ m:=λm h1 h2=>by simp[bE,ba _ _ h2,h1]
 have Du:upd (bE V Im K) i V₁ 0=V:=by rw[ba _ _ (by omega),cW]
 have wH:upd (bE V Im K) i V₁ i=V₁:=bx _ _ _;have kF:∀{U:View},jq p U->Sat U w->Sat U w':=λ{U} hb hs=>⟨λb o v e=>by
   have aH:b≠p.c:=λx=>(by rw[x,hb.2.1 o]at e;cases e);have:=hs.ab b o v e;simp only[Uz,fh b aH]at this⊢;exact this,λb x e=>by
   have aH:b≠p.c:=λy=>(by rw[y,hb.1]at e;cases e);rw[fh b aH];exact hs.own b x e⟩
 have alp:Sat V' w:=⟨λb o v e=>by
   simp only[V',nO]at e;split at e
   ·rename_i x hx;cases e;exact db.ab b o _ hx
   ·exact dP.ab b o v e,λb x e=>by
   simp only[V',nO]at e;split at e
   ·rename_i y hy;cases e;exact db.own b _ hy
   ·unfold lZ at e;split at e
    ·exact dP.own b x e
    ·cases e⟩
 have Cm:jq p V':=⟨by simp[V',nO,c1,lZ,v7.1],λo=>by simp[V',nO,c2,v7.2.1],by simp[V',nO,c3,lZ,v7.2.2.1],λo=>by simp[V',nO,c4,v7.2.2.2]⟩;have hsK:Sat (lW B V₁ (.work p.c p.Wg S)) w:=⟨dP.ab,λb x e=>by
   simp only[lW]at e;split at e
   ·cases e
   ·exact dP.own b x e⟩
 have Ck:jq p (lW B V₁ (.work p.c p.Wg S)):=⟨by simp[lW,v7.1],v7.2.1,by simp[lW,v7.2.2.1],v7.2.2.2⟩;have AD:∀b,V'.own b≠none->V.own b≠none\/(B b=true/\V₁.own b≠none):=λb hb=>by
  simp only[V',nO]at hb;split at hb
  ·rename_i y hy;exact .inl (by rw[hy];simp)
  ·unfold lZ at hb;split at hb
   ·rename_i hB;exact .inr ⟨hB,hb⟩
   ·exact absurd rfl hb
 have u5:∀b o,V'.ab b o≠none<->(V.ab b o≠none\/V₁.ab b o≠none):=λb o=>by
  simp only[V',nO];cases e:V.ab b o with
  |some x=>simp
  |none=>simp
 have AE:∀b,(lW B V₁ (.work p.c p.Wg S)).own b≠none->B b=false/\V₁.own b≠none:=λb hb=>by
  simp only[lW]at hb;split at hb
  ·exact absurd rfl hb
  ·rename_i hB;exact⟨by simpa using hB,hb⟩
 have xO:Core (bE V' Im (upd K i k')) gs.size w' (t++u) (sf (some p)) (m_ (some p) gs.size ic K) ic n0 W0:=by
  refine⟨λm hm=> ?_,λa b ha hb gH=> ?_,?_,Ao.trans hc.tape,hw5.trans hc.os,hw6.trans hc.out,λb hb=>(fh b (by omega)).trans (hc.old b hb),λm hm b hb=> ?_,by rw[bM];exact hc.n0⟩
  ·by_cases iT:m=0
   ·subst iT;rw[so];exact kF Cm alp
   ·by_cases cV:m=i
    ·subst cV;rw[wS];exact kF Ck hsK
    ·rw[wT m iT cV,ba _ _ cV];have:=hc.sat m hm;refine kF ?_ this;have e:bE V Im K m=(K m).view Im:=(by simp[bE,iT]);rw[e];exact h.blind (by omega)
  ·
   have dm:∀m,m<gs.size->m≠0->m≠i->jS (upd (bE V Im K) i V₁ m) V/\jS V (upd (bE V Im K) i V₁ m)/\jS (upd (bE V Im K) i V₁ m) V₁/\jS V₁ (upd (bE V Im K) i V₁ m):=λm hm h1 h2=>
    ⟨by have:=dn.dM m 0 hm h.pos h1;rwa [Du]at this,by have:=dn.dM 0 m h.pos hm (Ne.symm h1);rwa [Du]at this,by have:=dn.dM m i hm hlt h2;rwa [wH]at this,by have:=dn.dM i m hlt hm (Ne.symm h2);rwa [wH]at this⟩
   by_cases zF:a=0
   ·subst zF;by_cases iO:b=i
    ·subst iO;rw[so,wS];intro q hq;rcases AD q hq with x|⟨hB,x⟩
     ·refine⟨?_,λo ho=>(u5 q o).2 (.inl ((EQ q x).2 o ho))⟩;simp only[lW];split
      ·rfl
      ·exact(EQ q x).1
     ·refine⟨by simp only[lW,hB,if_true],λo ho=>(u5 q o).2 (.inr ho)⟩
    ·have s9:b≠0:=Ne.symm gH;rw[so,wT b s9 iO];obtain⟨_,e2,_,e4⟩:=dm b hb s9 iO;intro q hq;rcases AD q hq with x|⟨_,x⟩
     ·exact⟨(e2 q x).1,λo ho=>(u5 q o).2 (.inl ((e2 q x).2 o ho))⟩
     ·exact⟨(e4 q x).1,λo ho=>(u5 q o).2 (.inr ((e4 q x).2 o ho))⟩
   ·by_cases nw:a=i
    ·subst nw;by_cases s9:b=0
     ·subst s9;rw[so,wS];intro q hq;obtain⟨hB,x⟩:=AE q hq;refine⟨?_,λo ho=> ?_⟩
      ·simp only[V',nO,(PA q x).1,lZ,hB];rfl
      ·rcases(u5 q o).1 ho with y|y
       ·exact(PA q x).2 o y
       ·exact y
     ·rw[wS,wT b s9 (Ne.symm gH)];obtain⟨_,_,_,e4⟩:=dm b hb s9 (Ne.symm gH);intro q hq;exact e4 q (AE q hq).2
    ·rw[wT a zF nw];obtain⟨e1,e2,e3,e4⟩:=dm a ha zF nw;by_cases s9:b=0
     ·subst s9;rw[so];intro q hq;refine⟨?_,λo ho=>((u5 q o).1 ho).elim ((e1 q hq).2 o) ((e3 q hq).2 o)⟩;simp only[V',nO,(e1 q hq).1,lZ,(e3 q hq).1,ite_self]
     ·by_cases iO:b=i
      ·subst iO;rw[wS];intro q hq;refine⟨?_,(e3 q hq).2⟩;simp only[lW,(e3 q hq).1,ite_self]
      ·rw[wT b s9 iO];exact dn.dM a b ha hb gH
  ·rw[bM];refine dn.ti.mute (λop ay=>(jH op ay).1) (λop ay=>(jH op ay).2.2.2.1) (λop ay=>((jH op ay).2.2.1).elim (λx=>by rw[x];exact h.pos) (λx=>by rw[x];exact hlt)) (SQ _) (λop ay=>(jH op ay).2.2.2.2) (λm hm l hl idx a ha gI rR=> ?_) (λm hm l hl idx a ha gI=> ?_) (λidx a ha dK=>⟨λhp m hm=>((dn.ti.sp idx a ha dK).1 hp m hm).app u,λhp=>((dn.ti.sp idx a ha dK).2 hp).app u⟩)
   ·obtain⟨_,cU,nC⟩:=hl;by_cases iT:m=0
    ·subst iT;rw[so]at cU;have:gN V l\/gN V₁ l:=by
      cases l with
      |cell a'=>
       rcases cU with x|x
       ·exact(AD _ x).imp .inl (λy=> .inl y.2)
       ·exact((u5 _ _).1 x).imp .inr .inr
      |obj r=>exact(AD _ cU).imp id (λy=>y.2)
      |_=>exact cU.elim
     rcases this with x|x
     ·exact(dn.ti.kr 0 h.pos l ⟨h.pos,by rw[Du];exact x,nC⟩ idx a ha gI rR).app u
     ·exact cg idx (dn.ti.kr i hlt l ⟨hlt,by rw[wH];exact x,nC⟩ idx a ha gI rR)
    ·by_cases cV:m=i
     ·subst cV;rw[wS]at cU;have:gN V₁ l:=by
       cases l with
       |cell a'=>exact cU.imp (λx=>(AE _ x).2) id
       |obj r=>exact(AE _ cU).2
       |_=>exact cU.elim
      exact(dn.ti.kr m hm l ⟨hm,by rw[wH];exact this,nC⟩ idx a ha gI rR).app u
     ·rw[wT m iT cV]at cU;exact(dn.ti.kr m hm l ⟨hm,cU,nC⟩ idx a ha gI rR).app u
   ·obtain⟨_,cU,nC⟩:=hl;by_cases iT:m=0
    ·subst iT;rw[so]at cU;have:jT V l\/jT V₁ l:=by
      cases l with
      |cell a'=>
       have fQ:V.ab a'.block a'.off=none:=by
        cases e:V.ab a'.block a'.off with
        |none=>rfl
        |some x=>exact absurd cU.2 ((u5 _ _).2 (.inl (by rw[e];simp)))
       have uH:V₁.ab a'.block a'.off=none:=by
        cases e:V₁.ab a'.block a'.off with
        |none=>rfl
        |some x=>exact absurd cU.2 ((u5 _ _).2 (.inr (by rw[e];simp)))
       exact(AD _ cU.1).imp (λx=>⟨x,fQ⟩) (λx=>⟨x.2,uH⟩)
      |obj r=>exact(AD _ cU).imp id (λy=>y.2)
      |_=>exact cU.elim
     rcases this with x|x
     ·exact(dn.ti.kw 0 h.pos l ⟨h.pos,by rw[Du];exact x,nC⟩ idx a ha gI).app u
     ·exact cg idx (dn.ti.kw i hlt l ⟨hlt,by rw[wH];exact x,nC⟩ idx a ha gI)
    ·by_cases cV:m=i
     ·subst cV;rw[wS]at cU;have:jT V₁ l:=by
       cases l with
       |cell a'=>exact⟨(AE _ cU.1).2,cU.2⟩
       |obj r=>exact(AE _ cU).2
       |_=>exact cU.elim
      exact(dn.ti.kw m hm l ⟨hm,by rw[wH];exact this,nC⟩ idx a ha gI).app u
     ·rw[wT m iT cV]at cU;exact(dn.ti.kw m hm l ⟨hm,cU,nC⟩ idx a ha gI).app u
  ·by_cases iT:m=0
   ·subst iT;rw[so];have e1:=dn.jm 0 h.pos b hb;have e2:=dn.jm i hlt b hb;rw[Du]at e1;rw[wH]at e2;simp[V',nO,e1,lZ,e2]
   ·by_cases cV:m=i
    ·subst cV;rw[wS];have e2:=dn.jm m hm b hb;rw[wH]at e2;simp[lW,e2]
    ·rw[wT m iT cV];exact dn.jm m hm b hb
 refine Inv.mk' (by rw[aV];exact h.pos) (by rw[ba _ _ (by omega)];exact h.k0) (by rw[uE];exact h.d0) (λm x hm hx=> ?_) ?_ ?_ ?_
 ·show (upd K i k' m).is P p.c p.Wg Im (p.Ss.set j S) (UT (t++u) m) x;rw[uE];by_cases cV:m=i
  ·subst cV;rw[aM]at hx;cases hx;rw[bx];have eU:j<p.Ss.length:=(SL.1 hS).1;exact⟨by rw[kG];exact hd.symm,hk,S,by simp[W7 eU],rfl⟩
  ·rw[hgo m cV hm]at hx;rw[ba _ _ cV];have Ap:=di m x hm hx;have ws:m<gs.size:=(SS.1 hx).1;have aH:(K m).idx≠some j:=λe=>cV (a8 m i j hm ws hi hlt e xT);cases JQ:K m with
   |work j2 h2 V2=>
    rw[JQ]at Ap aH;obtain⟨b1,b2,S2,b3,b4⟩:=Ap;exact⟨b1,b2,S2,by rw[T6 (λe=>aH (by rw[e];rfl))];exact b3,b4⟩
   |nT j2 h2 V2 V3 g2 v2 z2=>
    rw[JQ]at Ap aH;obtain⟨b1,b2,b3,b4,sp2,S2,B2,b5,b6⟩:=Ap;exact⟨b1,b2,b3,b4,sp2,S2,B2,by rw[T6 (λe=>aH (by rw[e];rfl))];exact b5,b6⟩
   |_=>rw[JQ]at Ap;exact Ap
 ·rw[aV];refine xO.BC λm hm=> ?_;have fV:ja p gs.size ic (upd K i k') m:=hm;show ja p gs.size ic K m;unfold ja at fV⊢;rw[cZ,o6,wq]at fV;exact fV
 ·show Rest p.Wg (t++u) (upd K i k') ic st;have x7:Rest p.Wg t K ic st:=lP;rw[lq]at x7⊢;exact x7.app (λidx a ha hx=> .inr (hx.app (by obtain⟨op,ay,_⟩:=UU ha;exact TJ ay) λm _ _ hm=> .inl (by rw[cZ];exact hm))) (λidx a _ ⟨op,ay,_,hx⟩ _=>by rw[(jH op ay).1]at hx;cases hx)
 ·refine⟨a1,a2,a3,by rw[bM];exact a4,by rw[bM];exact a5,by simpa using a6,λm hm=> ?_,λm m' q b1 b2 b3 b4 b5 b6=>a8 m m' q b1 (aV▸b2) b3 (aV▸b4) (by rw[<- cZ];exact b5) (by rw[<- cZ];exact b6),λq S2 b1 b2=> ?_,?_⟩
  ·by_cases cV:m=i
   ·subst cV;rw[bx];exact⟨Ck.1,Ck.2.1,Ck.2.2.1,Ck.2.2.2,λx=>by cases x⟩
   ·rw[ba _ _ cV];exact a7 m hm
  ·rw[aV];by_cases hq:q=j
   ·subst hq;exact⟨i,hi,hlt,by rw[cZ];exact xT⟩
   ·have Iw:p.Ss[q]?=some S2:=by
     have:=b1;rwa [show ({p with Ss:=p.Ss.set j S}:Phase).Ss=p.Ss.set j S from rfl,T6 (Ne.symm hq)]at this
    obtain⟨m,e1,e2,e3⟩:=a9 q S2 Iw b2;exact⟨m,e1,e2,by rw[cZ];exact e3⟩
  ·show if p.recv=true then _ else _;rw[if_pos aG];refine⟨⟨Cm.1,Cm.2.1,Cm.2.2.1,Cm.2.2.2⟩,c5,by rw[aV];exact c6,s',c7,?_⟩;have hle:(K i).cnt<=sumTo gs.size λi=>(K i).cnt:=WE (f:=λi=>(K i).cnt) hlt;rw[aV];exact c8.al4 (by omega) lQ tJ (fh _ (Ne.symm a3))
end
section
variable {P:SI}{n0:Nat}{W0:Tp}{V:View}{gs gs':Array SG}{w w':Tp}{sl:Option (Nat×Nat)}{t:Um}{K:Nat->GS}{Im:cw}{ic:Nat}{p:Phase}{st st':Option eg}
theorem Inv.tW(h:Inv P n0 W0 V gs w t K Im ic (some p) st)(aG:p.recv=true){i:Nat}{gi bC:SG}{es:Array Ur}{k':GS}{s':eg}(hi:0<i)(aM:gs[i]?=some gi)(aQ:stepG P false gi w=.go bC w' es)
  (hk:k'.is P p.c p.Wg Im p.Ss (deafBehind (UT t i) es) bC) (qq:mE (k'.view Im) ((K i).view Im))
  (xM:k'.ng=true->i=ic) (cZ:k'.idx=none) (xS:∀j,(K i).idx=some j->p.Ss[j]?=some []/\∃r,Rel p.Wg (t++Ta i gi.frame.fn gi.frame.place es) i r/\t.size<=r)
  (ki:i=ic\/(K i).idx.isSome=true\/(K i).cnt=1\/(K i).late=1)
  (cu:∀e∈es,∀x,(Ts e).touch?=some x->(qW p.c p.Wg x.loc/\x.kind=.atomic)\/(qW p.c p.Wg x.loc/\x.kind=.said/\i=ic)\/(¬qW p.c p.Wg x.loc/\gN ((K i).view Im) x.loc/\x.write=false))
  (ij:∀e∈es,(Ts e).low w.heap.size) (rJ:∀e∈es,∀a,Ts e≠ .mark (.release a))
  (aV:w'.heap.size=w.heap.size) (jF:∀b,b≠p.c->b≠p.Wg->w'.heap[b]?=w.heap[b]?) (ht:w'.tape=w.tape) (ho:w'.os=w.os) (hu:w'.output=w.output)
  (xX:Mode P p.c p.Wg gs.size w' ((gs.map (woken P gi bC w')).setIfInBounds i bC) (t++Ta i gi.frame.fn gi.frame.place es) (upd K i k') ic s')
  (gJ:(∃n,w'.heap[p.c]?=some (.chan 0 #[] false n n false))\/((∀j,0<j->j<gs.size->j≠i->(K j).idx=none)/\∀g,nZ gs g p.c->kC ((gs.map (woken P gi bC w')).setIfInBounds i bC) g))
  (lP:Rest p.Wg (t++Ta i gi.frame.fn gi.frame.place es) (upd K i k') ic (some s'))
  (jH:Bm gs.size ((λj=>(upd K i k' j).c_),flag ((gs.map (woken P gi bC w')).setIfInBounds i bC) ic) ((λj=>(K j).c_),flag gs ic)):gB P n0 W0 V gs w sl t K Im ic (some p) st i:=by
 have hlt:i<gs.size:=(SS.1 aM).1;obtain⟨_,hc,_,hp⟩:=h.out;obtain⟨a1,a2,a3,a4,a5,a6,a7,a8,a9,bR⟩:=hp;rw[if_pos aG]at bR;obtain⟨c1,c2,c3,_⟩:=bR;have qB:bE V Im K i=(K i).view Im:=by simp[bE];omega
 have Cl:∀j,j<gs.size->jq p (bE V Im K j):=λj _=>by
  by_cases hj:j=0
  ·subst hj;rw[show bE V Im K 0=V by simp[bE]];exact⟨c1.1,c1.2.1,c1.2.2.1,c1.2.2.2⟩
  ·simp only[bE,hj,if_false];exact h.blind (by omega)
 have Ra:m_ (some p) gs.size ic K i:=by
  show ja p gs.size ic K i;unfold ja;rw[if_pos aG];exact⟨hi,hlt,by rcases ki with x|x|x|x;exact .inr (.inl x);exact .inl x;exact .inr (.inr (.inl x));exact .inr (.inr (.inr x))⟩
 refine h.aa5 (st':=some s') hi aM aQ hk (λhb=> ?_) (λq hq=>by cases hq;exact gJ.imp id And.left) ?_ lP ?_ jH ?_
 ·rcases GS.runs hk with x|⟨x,_⟩|⟨_,_,_,_,_,_,_,e⟩|⟨_,_,x⟩
  ·rw[x]at hb;cases hb
  ·rw[x]at hb;cases hb
  ·rw[e]at cZ;cases cZ
  ·exact x
 ·rw[NQ V Im K hi];have dK:=hc.tW hlt (es:=es) (w':=w') (λe he x hx=>by
    rcases cu e he x hx with⟨x1,x2⟩|⟨x1,x2,x3⟩|⟨x1,x2,x3⟩
    ·exact .inl ⟨x1,x2,Ra⟩
    ·exact .inr (.inl ⟨x1,x2,x3,Ra⟩)
    ·exact .inr (.inr ⟨x1,.inr (.inl ⟨⟨hlt,by rw[qB];exact x2,x1⟩,x3⟩)⟩)) ij rJ (λb=>b=p.c\/b=p.Wg)
   (λb hb=>by
    rcases hb with rfl|rfl
    ·exact⟨a1,λj hj=>⟨(Cl j hj).1,(Cl j hj).2.1⟩⟩
    ·exact⟨a2,λj hj=>⟨(Cl j hj).2.2.1,(Cl j hj).2.2.2⟩⟩) aV (λb hb=>jF b (λx=>hb (.inl x)) (λx=>hb (.inr x))) ht ho hu gi.frame.fn gi.frame.place
  refine(dK.less (V':=k'.view Im) hlt (by rw[qB];exact qq)).BC λm hm=> ?_;have fV:ja p gs.size ic (upd K i k') m:=hm;show ja p gs.size ic K m;unfold ja at fV⊢;rw[if_pos aG]at fV⊢;by_cases cV:m=i
  ·subst cV;exact⟨hi,hlt,by rcases ki with x|x|x|x;exact .inr (.inl x);exact .inl x;exact .inr (.inr (.inl x));exact .inr (.inr (.inr x))⟩
  ·rw[ba _ _ cV]at fV;exact fV
 ·refine h.MW (by simp) (by omega) ?_ xM (.inr ⟨cZ,λj hj=>(xS j hj).1⟩) ?_
  ·have hb:=h.blind hi;exact⟨(qq.1 _).elim id (λx=>x.trans hb.1),λo=>(qq.2.1 _ o).elim id (λx=>x.trans (hb.2.1 o)),(qq.1 _).elim id (λx=>x.trans hb.2.2.1),λo=>(qq.2.1 _ o).elim id (λx=>x.trans (hb.2.2.2 o))⟩
  ·rw[if_pos aG];exact⟨s',rfl,xX⟩
 ·intro g c Kf;refine⟨MC hi,λjh _=> ?_⟩;rw[<- Kf p rfl]at jh⊢;rcases gJ with x|⟨_,x⟩
  ·exact .inr ⟨MU hi jh x,x⟩
  ·exact .inl (x g jh)
theorem Mode.al3{c Wg N:Nat}{u:Um}{K':Nat->GS}{s:eg}(h:Mode P c Wg N w gs t K ic s)(e1:sumTo N (λi=>(K' i).cnt)=sumTo N λi=>(K i).cnt)(e2:sumTo N (λi=>(K' i).late)=sumTo N λi=>(K i).late)
  (e4:(K' ic).shape=(K ic).shape) (e5:∀i,i<N->((K' i).shape=.load 0\/(K' i).shape=.store 0)->((K i).shape=.load 0\/(K i).shape=.store 0)) (e6:∀i,i<N->(K' i).shape=.my 0->(K i).shape=.my 0) (hc:w'.heap[c]?=w.heap[c]?) (hW:w'.heap[Wg]?=w.heap[Wg]?)
  (hr:(∀g,gs[ic]?=some g->g.status=.running)->∀g,gs'[ic]?=some g->g.status=.running):Mode P c Wg N w' gs' (t++u) K' ic s:=by
 have e3:∀st sm,WgAt P Wg w' st sm=WgAt P Wg w st sm:=λst sm=>by unfold WgAt;rw[hW]
 unfold Mode at h⊢;simp only[e1,e2,e3,e4,hc];rcases h with h|h|h|h|h|h|h
 ·exact .inl h
 ·exact .inr (.inl h)
 ·exact .inr (.inr (.inl ⟨h.1,h.2.1,h.2.2.1,h.2.2.2.1,h.2.2.2.2.1,λi hi x=>h.2.2.2.2.2.1 i hi (e5 i hi x),λi hi x=>h.2.2.2.2.2.2 i hi (e6 i hi x)⟩))
 ·exact .inr (.inr (.inr (.inl ⟨h.1,h.2.1,h.2.2.1,h.2.2.2.1,h.2.2.2.2.1,hr h.2.2.2.2.2.1,h.2.2.2.2.2.2⟩)))
 ·exact .inr (.inr (.inr (.inr (.inl h))))
 ·exact .inr (.inr (.inr (.inr (.inr (.inl h)))))
 ·obtain⟨⟨p,n,a,b,c',d⟩,e⟩:=h;exact .inr (.inr (.inr (.inr (.inr (.inr ⟨⟨p,n,a,by rw[X0 (Wb b)];exact b,(Wr (Wb b)).2 c',d⟩,e⟩)))))
theorem Mode.waits{c Wg N:Nat}{s:eg}(h:Mode P c Wg N w gs t K ic s):(K ic).cnt=0/\(K ic).late=0:=by
 rw[<- GS.nh,<- GS.mu];rcases h with h|h|h|h|h|h|h
 ·rcases h.2.2.2.2.2 with⟨_,e,_⟩|⟨_,e,_⟩<;>rw[e]<;>exact⟨rfl,rfl⟩
 ·rcases h.2.2.2.2.2.2 with e|e<;>rw[e]<;>exact⟨rfl,rfl⟩
 ·rcases h.2.2.2.2.1 with e|e<;>rw[e]<;>exact⟨rfl,rfl⟩
 ·rcases h.2.2.2.2.2.2 with e|e<;>rw[e]<;>exact⟨rfl,rfl⟩
 ·rcases h.2.2.2.2.2 with e|e<;>rw[e]<;>exact⟨rfl,rfl⟩
 ·rcases h.2.2.2.2 with e|e<;>rw[e]<;>exact⟨rfl,rfl⟩
 ·rw[h.2.2.2];exact⟨rfl,rfl⟩
theorem yp{i:Nat}{k':GS}{a b:Nat}(hlt:i<gs.size)(hr:qU k'.c_ (K i).c_):Bm gs.size ((λj=>(upd K i k' j).c_),a) ((λj=>(K j).c_),b):=
 .inl ⟨i,hlt,by simpa only[bx]using hr,λj hj=>by show (upd K i k' j).c_=(K j).c_;rw[ba _ _ hj]⟩
theorem Inv.mode(h:Inv P n0 W0 V gs w t K Im ic (some p) st)(aG:p.recv=true):∃s,st=some s/\0<ic/\ic<gs.size/\Mode P p.c p.Wg gs.size w gs t K ic s:=by
 have hx:=h.phase.2.2.2.2.2.2.2.2.2;rw[if_pos aG]at hx;obtain⟨_,h1,h2,s,h3,h4⟩:=hx;exact⟨s,h3,h1,h2,h4⟩
theorem ofEvents_one{i:Nat}{fn:TO}{pos:String}{e:Ur}:Ta i fn pos #[e]=#[{g:=i,fn,pos,act:=.ofEvent e}]:=by simp[Ta]
theorem Pm{t u:Um}{g:Nat}:(t++u).deaf g t.size=UT t g:=deaf_old (SQ _)
theorem Gy(U:View):mE noView U:=⟨λ_=> .inl rfl,λ_ _=> .inl rfl,λb hb=>absurd rfl hb⟩
theorem Inv.release(h:Inv P n0 W0 V gs w t K Im ic (some p) st)(aG:p.recv=true){i j:Nat}{gi:SG}{hh:Ht}{Vi V₁:View}{c Wg:Nat}(hi:0<i)(aM:gs[i]?=some gi)(hK:K i=.work j hh Vi)(hg:dR Vi V₁)
  (hr:V₁.role=.work c Wg []) (hd:V₁.deaf=0) (hf:En P Wg gi):gB P n0 W0 V gs w sl t K Im ic (some p) st i:=by
 have hlt:i<gs.size:=(SS.1 aM).1;have di:=h.is i gi hi aM;simp only[hK,GS.is]at di;obtain⟨bz,_,S,hS,ji⟩:=di;rw[hg.role,ji]at hr;cases hr;have gT:(K i).cnt=1:=by rw[hK];rfl
 obtain⟨⟨n,gJ⟩,lq⟩:=h.counted hi hlt gT;obtain⟨s,hs,gp,iS,hm⟩:=h.mode aG;rw[lq]at hs;cases hs;obtain⟨bH,g',lr,m,cH⟩:=hf;have aH:i≠ic:=λe=>by have:=(Mode.waits hm).1;rw[<- e,gT]at this;cases this
 have aT:UT t i=0:=by rw[bz,<- hg.deaf,hd]
 have rL:Rel p.Wg (t++Ta i gi.frame.fn gi.frame.place #[j9 (.releaseMerge (dV p.Wg))]) i t.size:=by
  rw[ofEvents_one];have e:(#[({g:=i,fn:=gi.frame.fn,pos:=gi.frame.place,act:=.ofEvent (j9 (.releaseMerge (dV p.Wg)))}:Wc)]:Um)[0]?=some _:=rfl;have g0:=rk (t:=t) e;exact⟨ae_ g0,by simp[WB,g0],heard_new e rfl (by rw[show t.size+0=t.size from rfl,Pm];exact aT)⟩
 have nF:∀e∈#[j9 (.releaseMerge (dV p.Wg))],e=j9 (.releaseMerge (dV p.Wg)):=λe he=>by simpa using he
 refine h.tW aG (k':=.add m) (s':=.early) hi aM (lr w) ?_ (by rw[hK];exact Gy _) (λx=>by cases x) rfl (λj' iB=> ?_) (.inr (.inr (.inl gT))) (λe he x hx=> ?_) (λe he=> ?_) (λe he a=> ?_) rfl (λ_ _ _=>rfl) rfl rfl rfl ?_ (.inl ⟨n,gJ⟩) ?_ (yp hlt ?_)
 ·show cS P (Ba P p.Wg) m _ g';rw[aT];exact cH
 ·rw[hK]at iB;cases iB;exact⟨hS,t.size,rL,SQ _⟩
 ·rw[nF e he]at hx;cases hx
 ·rw[nF e he];exact h.low.2
 ·rw[nF e he];simp[j9,Ts]
 ·refine hm.al3 (lA K _ GS.cnt (by rw[gT];rfl)) (lA K _ GS.late (by rw[hK];rfl)) (by rw[ba _ _ (Ne.symm aH)]) (λm hm=> ?_) (λm hm=> ?_) rfl rfl (ab2 hlt ?_)
  ·by_cases cV:m=i
   ·subst cV;rw[bx];intro x;rcases x with x|x<;>cases x
   ·rw[ba _ _ cV];exact id
  ·by_cases cV:m=i
   ·subst cV;rw[bx];intro x;cases x
   ·rw[ba _ _ cV];exact id
  ·exact cS.running (λd g x=>x.2.1) cH
 ·have hr:Rest p.Wg t K ic st:=h.out.2.2.1;rw[lq]at hr;refine hr.app (λidx a ha hx=> .inr (hx.app (by obtain⟨op,ay,_⟩:=UU ha;exact TJ ay) λm wj _ hm=> ?_)) (λidx a _ ⟨op,ay,_,hx⟩ _=> ?_)
  ·by_cases cV:m=i
   ·subst cV;exact .inr ⟨t.size,rL,by obtain⟨op,ay,_⟩:=UU ha;exact Nat.le_of_lt (TJ ay)⟩
   ·rw[ba _ _ cV];exact .inl hm
  ·rw[ofEvents_one]at ay;simp only[TK,SK,S0,or_false]at ay;subst ay;cases hx
 ·rw[hK];refine .inl ?_;simp only[GS.c_,ji];omega
def Atom (a:U5)(es:Array Ur):Prop:=es=#[jd a]\/es=#[kZ a]\/es=#[jd a,kZ a]\/es=AN a
theorem Atom.mem{a:U5}{es:Array Ur}(h:Atom a es){e:Ur}(he:e∈es):e=jd a\/e=kZ a\/e=j9 .disable\/e=j9 .enable:=by
 rcases h with rfl|rfl|rfl|rfl<;>simp only[AN,TK,SK,S0,or_false]at he
 ·exact .inl he
 ·exact .inr (.inl he)
 ·exact he.imp id .inl
 ·rcases he with x|x|x|x
  ·exact .inr (.inr (.inl x))
  ·exact .inl x
  ·exact .inr (.inl x)
  ·exact .inr (.inr (.inr x))
theorem Atom.behind{a:U5}{es:Array Ur}(h:Atom a es):deafBehind 1 es=1:=by
 rcases h with rfl|rfl|rfl|rfl<;>rfl
theorem Atom.touch{a:U5}{es:Array Ur}(h:Atom a es){e:Ur}(he:e∈es){x:YI}(hx:(Ts e).touch?=some x):x.loc=.cell a/\x.kind=.atomic:=by
 rcases h.mem he with rfl|rfl|rfl|rfl
 ·cases hx;exact⟨rfl,rfl⟩
 ·cases hx;exact⟨rfl,rfl⟩
 ·cases hx
 ·cases hx
theorem Atom.low{a:U5}{es:Array Ur}(h:Atom a es){n:Nat}(ha:a.block<n){e:Ur}(he:e∈es):(Ts e).low n:=by
 rcases h.mem he with rfl|rfl|rfl|rfl
 ·exact ha
 ·exact ha
 ·trivial
 ·trivial
theorem Atom.norel{a:U5}{es:Array Ur}(h:Atom a es){e:Ur}(he:e∈es)(b:U5):Ts e≠ .mark (.release b):=by
 rcases h.mem he with rfl|rfl|rfl|rfl<;>simp[jd,kZ,j9,Ts]
theorem Atom.ar1{a:U5}{es:Array Ur}(h:Atom a es){i:Nat}{fn:TO}{pos:String}(hd:UT t i=1){idx:Nat}{op:Wc}{x:YI}(cZ:t.size<=idx)(ay:(t++Ta i fn pos es)[idx]?=some op)(hx:op.act.touch?=some x):
  ¬(t++Ta i fn pos es).heard idx:=by
 obtain⟨k,rfl⟩:∃k,idx=t.size+k:=⟨idx-t.size,by omega⟩;have tx:(Ta i fn pos es)[k]?=some op:=by rw[X2 (by omega)]at ay;simpa using ay
 have aM:op.g=i:=by obtain⟨e,_,rfl⟩:=TM (XQ tx);rfl
 rintro⟨g,hg,hz⟩
 have:g=i:=by simp[WB,ay,aM]at hg;exact hg.symm
 subst this;have AW:∀y:Wc,y.act=Ts (jd a)\/y.act=Ts (kZ a)->still y.act:=λy hy=>by rcases hy with e|e<;>rw[e]<;>exact⟨by simp[jd,kZ,Ts],by simp[jd,kZ,Ts]⟩
 rcases h with rfl|rfl|rfl|rfl
 ·have:=ur (t:=t) (u:=Ta g fn pos #[jd a]) (g:=g) (λop ay=>by obtain⟨e,he,rfl⟩:=TM ay;simp only[TK,SK,S0,or_false]at he;subst he;exact AW _ (.inl rfl)) (k:=k) (by have:=TJ tx;omega);omega
 ·have:=ur (t:=t) (u:=Ta g fn pos #[kZ a]) (g:=g) (λop ay=>by obtain⟨e,he,rfl⟩:=TM ay;simp only[TK,SK,S0,or_false]at he;subst he;exact AW _ (.inr rfl)) (k:=k) (by have:=TJ tx;omega);omega
 ·have:=ur (t:=t) (u:=Ta g fn pos #[jd a,kZ a]) (g:=g) (λop ay=>by obtain⟨e,he,rfl⟩:=TM ay;simp only[TK,SK,S0,or_false]at he;rcases he with rfl|rfl;exact AW _ (.inl rfl);exact AW _ (.inr rfl)) (k:=k) (by have:=TJ tx;omega);omega
 ·
  have eu:Ta g fn pos (AN a)=#[{g,fn,pos,act:=.mark .disable},{g,fn,pos,act:=.ofEvent (jd a)},{g,fn,pos,act:=.ofEvent (kZ a)},{g,fn,pos,act:=.mark .enable}]:=by simp[Ta,AN,j9,Ts]
  rw[eu]at tx hz;have d0:(t++#[({g,fn,pos,act:=.mark .disable}:Wc),{g,fn,pos,act:=.ofEvent (jd a)},{g,fn,pos,act:=.ofEvent (kZ a)},{g,fn,pos,act:=.mark .enable}]).deaf g t.size=1:=by rw[Pm];exact hd
  have d1:=Z_ (g:=g) (rk (t:=t) (show (#[({g,fn,pos,act:=.mark .disable}:Wc),{g,fn,pos,act:=.ofEvent (jd a)},{g,fn,pos,act:=.ofEvent (kZ a)},{g,fn,pos,act:=.mark .enable}]:Um)[0]?=some _ from rfl));have d2:=Z_ (g:=g) (rk (t:=t) (show (#[({g,fn,pos,act:=.mark .disable}:Wc),{g,fn,pos,act:=.ofEvent (jd a)},{g,fn,pos,act:=.ofEvent (kZ a)},{g,fn,pos,act:=.mark .enable}]:Um)[1]?=some _ from rfl));have d3:=Z_ (g:=g) (rk (t:=t) (show (#[({g,fn,pos,act:=.mark .disable}:Wc),{g,fn,pos,act:=.ofEvent (jd a)},{g,fn,pos,act:=.ofEvent (kZ a)},{g,fn,pos,act:=.mark .enable}]:Um)[2]?=some _ from rfl));rw[IL (AW _ (.inl rfl))]at d2;rw[IL (AW _ (.inr rfl))]at d3;simp only[UE]at d1;rw[d0]at d1;have d1:=d1.trans (show deafStep g 1 {g,fn,pos,act:=.mark .disable}=2 by simp[deafStep]);have hk:k<4:=by have:=TJ tx;simpa using this
  match k,hk with
  |0,_=>simp at tx;subst tx;cases hx
  |1,_=>rw[d1]at hz;omega
  |2,_=>rw[show t.size+2=t.size+1+1 from rfl,d2,d1]at hz;omega
  |3,_=>simp at tx;subst tx;cases hx
theorem Rest.atom{Wg:Nat}{s:eg}(hr:Rest Wg t K ic (some s)){a:U5}{es:Array Ur}(h:Atom a es){i:Nat}{fn:TO}{pos:String}(hd:UT t i=1){K':Nat->GS}(cZ:∀m,(K' m).idx=(K m).idx):Rest Wg (t++Ta i fn pos es) K' ic (some s):=by
 refine hr.app (λidx a ha hx=> .inr (hx.app (by obtain⟨op,ay,_⟩:=UU ha;exact TJ ay) λm _ _ hm=> .inl (by rw[cZ];exact hm))) (λidx x hi ⟨op,ay,xS,hx⟩ _=> .inr (.inl ⟨?_,h.ar1 hd hi xS hx⟩));obtain⟨e,he,rfl⟩:=TM ay;exact(h.touch he hx).2
theorem WgAt.Hk{Wg:Nat}{a b:Int}(h:WgAt P Wg w a b)(v:Int):WgAt P Wg (w.setCell (dV Wg) (.int .u64 v)) v b:=by
 unfold WgAt at h⊢;unfold Xg;rw[Wi];simp[dV,h,wgBlock]
theorem WgAt.acu{Wg:Nat}{a b:Int}(h:WgAt P Wg w a b)(v:Int):WgAt P Wg (w.setCell (oK Wg) (.int .u32 v)) a v:=by
 unfold WgAt at h⊢;unfold Xg;rw[Wi];simp[oK,h,wgBlock]
theorem WgAt.inj{Wg:Nat}{a b a' b':Int}(h:WgAt P Wg w a b)(k:WgAt P Wg w a' b'):a=a'/\b=b':=by
 unfold WgAt at h k;rw[h]at k;simp[wgBlock]at k;exact k
theorem Inv.EG(h:Inv P n0 W0 V gs w t K Im ic (some p) st)(aG:p.recv=true){i:Nat}{gi bC:SG}{es:Array Ur}{k':GS}{s:eg}{a:U5}(hs:st=some s)(hi:0<i)(aM:gs[i]?=some gi)(aQ:stepG P false gi w=.go bC w' es)(hd:UT t i=1)
  (ha:Atom a es) (zG:a=dV p.Wg\/a=oK p.Wg) (nM:w'=w\/∃x,w'=w.setCell a x) (hk:k'.is P p.c p.Wg Im p.Ss 1 bC) (qq:mE (k'.view Im) ((K i).view Im)) (xM:k'.ng=true->i=ic) (cZ:k'.idx=none) (uI:(K i).idx=none)
  (ki:i=ic\/(K i).cnt=1\/(K i).late=1) (gJ:∃n,w.heap[p.c]?=some (.chan 0 #[] false n n false))
  (xX:Mode P p.c p.Wg gs.size w' ((gs.map (woken P gi bC w')).setIfInBounds i bC) (t++Ta i gi.frame.fn gi.frame.place es) (upd K i k') ic s) (uS:qU k'.c_ (K i).c_):gB P n0 W0 V gs w sl t K Im ic (some p) st i:=by
 have hlt:i<gs.size:=(SS.1 aM).1;have v9:a.block=p.Wg:=by rcases zG with rfl|rfl<;>rfl
 have rB:p.c≠p.Wg:=h.phase.2.2.1;have jF:∀b,b≠p.Wg->w'.heap[b]?=w.heap[b]?:=λb hb=>by
  rcases nM with rfl|⟨x,rfl⟩
  ·rfl
  ·exact wh _ _ _ (by rw[v9];exact Ne.symm hb)
 have aV:w'.heap.size=w.heap.size:=by rcases nM with rfl|⟨x,rfl⟩;rfl;exact DT _ _ _
 refine h.tW aG hi aM aQ (by rw[hd,ha.behind];exact hk) qq xM cZ (λj hj=>by rw[uI]at hj;cases hj) (ki.imp id .inr) (λe he x hx=> .inl ?_) (λe he=>ha.low (by rw[v9];exact h.low.2) he) (λe he b=>ha.norel he b) aV (λb _ hb=>jF b hb)
  (by rcases nM with rfl|⟨x,rfl⟩<;>rfl) (by rcases nM with rfl|⟨x,rfl⟩<;>rfl) (by rcases nM with rfl|⟨x,rfl⟩<;>rfl) xX (.inl (by rw[jF _ rB];exact gJ)) ?_ (yp hlt uS)
 ·have:=ha.touch he hx;exact⟨by rw[this.1];exact v9,this.2⟩
 ·have hr:Rest p.Wg t K ic st:=h.out.2.2.1;rw[hs]at hr;exact hr.atom ha hd λm=>by
   by_cases hm:m=i
   ·subst hm;rw[bx,cZ,uI]
   ·rw[ba _ _ hm]
theorem Inv.aeD(h:Inv P n0 W0 V gs w t K Im ic (some p) st)(aG:p.recv=true){i n:Nat}{gi:SG}(hi:0<i)(aM:gs[i]?=some gi)(hK:K i=.add n)(jJ:Ba P p.Wg (UT t i) gi):gB P n0 W0 V gs w sl t K Im ic (some p) st i:=by
 have hlt:i<gs.size:=(SS.1 aM).1;obtain⟨s,hs,gp,iS,hm⟩:=h.mode aG;have gT:(K i).cnt=1:=by rw[hK];rfl
 have fg:(K i).late=0:=by rw[hK];rfl
 have uI:(K i).idx=none:=by rw[hK];rfl
 have gJ:=(h.counted hi hlt gT).1;have aH:ic≠i:=λe=>by have:=(Mode.waits hm).1;rw[e,gT]at this;cases this
 obtain⟨hd,bH,F9⟩:=jJ;have hle:(K i).cnt<=sumTo gs.size λi=>(K i).cnt:=WE (f:=λi=>(K i).cnt) hlt;have rB:p.c≠p.Wg:=h.phase.2.2.1;have hq:∀(k':GS),sumTo gs.size (λa=>(upd K i k' a).cnt)+(K i).cnt=sumTo gs.size (λa=>(K a).cnt)+k'.cnt:=λk'=>AX K k' GS.cnt hlt;have tD:∀(k':GS),sumTo gs.size (λa=>(upd K i k' a).late)+(K i).late=sumTo gs.size (λa=>(K a).late)+k'.late:=λk'=>AX K k' GS.late hlt;have qq:∀k':GS,k'.view Im=noView->mE (k'.view Im) ((K i).view Im):=λk' e=>by rw[e];exact Gy _
 have leave:∀(wt v:Nat),wt<=1->v+1=(sumTo gs.size λi=>(K i).cnt)->v<4->¬(v=0/\wt=1)->s=.early->(sumTo gs.size λi=>(K i).late)=0->WgAt P p.Wg w (((v+1:Nat):Int)* KK+wt) 0->
   ((wt=0/\((∃k,(K ic).shape=.head k 0/\v<k)\/(∃u,(K ic).shape=.mc u 0/\v<=u/\0<u)))\/(wt=1/\((K ic).shape=.said 0\/(K ic).shape=.ig 0)))->gB P n0 W0 V gs w sl t K Im ic (some p) st i:=by
  intro wt v uW hv Gb fw Sz atw hW aY;obtain⟨g',aQ,_,mj⟩:=F9 v wt uW Gb;obtain⟨q,mj⟩:=mj fw;have CO:=hq (.gone q);have CN:=tD (.gone q);simp only[gT,fg]at CO CN;rw[show (GS.gone q).cnt=0 from rfl]at CO;rw[show (GS.gone q).late=0 from rfl]at CN;refine h.EG aG (k':=.gone q) (a:=dV p.Wg) hs hi aM (aQ w hW) hd (.inr (.inr (.inl rfl))) (.inl rfl) (.inr ⟨_,rfl⟩) mj (qq _ rfl) (λx=>by cases x) rfl uI (.inr (.inl gT)) gJ ?_ (by rw[hK];exact .inl (by simp[GS.c_]));have vZ:=hW.Hk ((v:Int)* KK+wt);unfold Mode;simp only[ba _ _ aH];have I4:sumTo gs.size (λa=>(upd K i (.gone q) a).cnt)=v:=by omega
  have I7:sumTo gs.size (λa=>(upd K i (.gone q) a).late)=0:=by omega
  simp only[I4,I7];have ho:∃n,(w.setCell (dV p.Wg) (.int .u64 ((v:Int)* KK+wt))).heap[p.c]?=some (.chan 0 #[] false n n false):=by
   obtain⟨n,hn⟩:=gJ;exact⟨n,by rw[wh _ _ _ (Ne.symm rB)];exact hn⟩
  rcases aY with⟨rfl,aY⟩|⟨rfl,aY⟩
  ·exact .inl ⟨ho,Sz,trivial,by omega,by simpa using vZ,aY⟩
  ·exact .inr (.inl ⟨ho,Sz,trivial,by omega,by omega,by simpa using vZ,aY⟩)
 unfold Mode at hm;rcases hm with m|m|m|m|m|m|m
 ·obtain⟨m1,m2,m3,m4,m5,m6⟩:=m;refine leave 0 ((sumTo gs.size λi=>(K i).cnt)-1) (by omega) (by omega) (by omega) (by omega) m2 m3 ?_ (.inl ⟨rfl,?_⟩)
  ·rw[show (sumTo gs.size λi=>(K i).cnt)-1+1=(sumTo gs.size λi=>(K i).cnt) by omega];simpa using m5
  ·rcases m6 with⟨k,e1,e2⟩|⟨u,e1,e2,e3⟩
   ·exact .inl ⟨k,e1,by omega⟩
   ·exact .inr ⟨u,e1,by omega,e3⟩
 ·obtain⟨m1,m2,m3,m4,m5,m6,m7⟩:=m;by_cases hv:(sumTo gs.size λi=>(K i).cnt)=1
  ·
   obtain⟨g',aQ,fF,_⟩:=F9 0 1 (by omega) (by omega);obtain⟨n',fF⟩:=fF ⟨rfl,rfl⟩;have CO:=hq (.load n');have CN:=tD (.load n');simp only[gT,fg]at CO CN;rw[show (GS.load n').cnt=0 from rfl]at CO;rw[show (GS.load n').late=1 from rfl]at CN;rw[hv]at m6;have hW:WgAt P p.Wg w (((0+1:Nat):Int)* KK+(1:Nat)) 0:=(by simpa using m6);refine h.EG aG (k':=.load n') (a:=dV p.Wg) hs hi aM (aQ w hW) hd (.inr (.inr (.inl rfl))) (.inl rfl) (.inr ⟨_,rfl⟩) fF (qq _ rfl) (λx=>by cases x) rfl uI (.inr (.inl gT)) gJ ?_ (by rw[hK];exact .inl (by simp[GS.c_]));have vZ:=hW.Hk (((0:Nat):Int)* KK+(1:Nat));unfold Mode;simp only[ba _ _ aH];have I4:sumTo gs.size (λa=>(upd K i (.load n') a).cnt)=0:=(by omega);have I7:sumTo gs.size (λa=>(upd K i (.load n') a).late)=1:=(by omega);simp only[I4,I7];have ho:∃n,(w.setCell (dV p.Wg) (.int .u64 (((0:Nat):Int)* KK+(1:Nat)))).heap[p.c]?=some (.chan 0 #[] false n n false):=by
    obtain⟨n,hn⟩:=gJ;exact⟨n,by rw[wh _ _ _ (Ne.symm rB)];exact hn⟩
   refine .inr (.inr (.inl ⟨ho,m2,trivial,trivial,m7,λ_ _ _=>by simpa using vZ,λm hm qx=> ?_⟩));exfalso;have cV:m≠i:=λe=>(by subst e;rw[bx]at qx;cases qx);rw[ba _ _ cV]at qx;have CE:(K m).late<=sumTo gs.size λi=>(K i).late:=WE (f:=λi=>(K i).late) hm;rw[m3,<- GS.mu,qx]at CE;simp[GS.late]at CE
  ·refine leave 1 ((sumTo gs.size λi=>(K i).cnt)-1) (by omega) (by omega) (by omega) (by omega) m2 m3 ?_ (.inr ⟨rfl,m7⟩);rw[show (sumTo gs.size λi=>(K i).cnt)-1+1=(sumTo gs.size λi=>(K i).cnt) by omega];simpa using m6
 ·have:=m.2.2.2.1;omega
 ·have:=m.2.2.2.1;omega
 ·have:=m.2.2.2.1;omega
 ·have:=m.2.2.2.1;omega
 ·have:=m.2.2.1;omega
theorem Mode.Dc{c Wg N:Nat}{s:eg}(hm:Mode P c Wg N w gs t K ic s){i:Nat}(hlt:i<N)(fg:(K i).late=1):
  (∃n,w.heap[c]?=some (.chan 0 #[] false n n false))/\s=.early/\(sumTo N λi=>(K i).late)=1/\(sumTo N λi=>(K i).cnt)=0/\((K ic).shape=.said 0\/(K ic).shape=.ig 0)/\
  (((K i).shape=.load 0\/(K i).shape=.store 0)->WgAt P Wg w 1 0)/\((K i).shape=.my 0->WgAt P Wg w 0 0):=by
 have hle:(K i).late<=sumTo N λi=>(K i).late:=WE (f:=λi=>(K i).late) hlt;unfold Mode at hm;rcases hm with m|m|m|m|m|m|m
 ·have:=m.2.2.1;omega
 ·have:=m.2.2.1;omega
 ·exact⟨m.1,m.2.1,m.2.2.1,m.2.2.2.1,m.2.2.2.2.1,m.2.2.2.2.2.1 i hlt,m.2.2.2.2.2.2 i hlt⟩
 ·have:=m.2.2.1;omega
 ·have:=m.2.2.1;omega
 ·have:=m.2.2.1;omega
 ·have:=m.2.1;omega
theorem abr{N:Nat}(h:(sumTo N λi=>(K i).late)=1){i m:Nat}(hi:i<N)(hm:m<N)(aH:m≠i)(fg:(K i).late=1):(K m).late=0:=by
 have:=AX K (.gone 0) GS.late hi;have h2:((upd K i (.gone 0)) m).late<=sumTo N λa=>(upd K i (.gone 0) a).late:=WE (f:=λa=>(upd K i (.gone 0) a).late) hm;rw[ba _ _ aH]at h2;simp only[fg,h,show (GS.gone 0).late=0 from rfl]at this;omega
theorem Inv.Mm(h:Inv P n0 W0 V gs w t K Im ic (some p) st)(aG:p.recv=true){i:Nat}{gi bC:SG}{es:Array Ur}{k':GS}{a:U5}(hi:0<i)(aM:gs[i]?=some gi)(aQ:stepG P false gi w=.go bC w' es)(hd:UT t i=1)
  (ha:Atom a es) (zG:a=dV p.Wg\/a=oK p.Wg) (nM:w'=w\/∃x,w'=w.setCell a x) (hk:k'.is P p.c p.Wg Im p.Ss 1 bC) (hv:k'.view Im=noView) (cZ:k'.idx=none) (uI:(K i).idx=none) (o6:(K i).cnt=0) (aj0:k'.cnt=0) (xM:k'.ng=false) (fg:(K i).late=1)
  (tg:(k'.late=1/\((k'.shape=.load 0\/k'.shape=.store 0)->WgAt P p.Wg w' 1 0)/\(k'.shape=.my 0->WgAt P p.Wg w' 0 0))\/
   (k'.late=0/\WgAt P p.Wg w' 0 1/\∀g,((gs.map (woken P gi bC w')).setIfInBounds i bC)[ic]?=some g->g.status=.running)) (uS:qU k'.c_ (K i).c_):gB P n0 W0 V gs w sl t K Im ic (some p) st i:=by
 have hlt:i<gs.size:=(SS.1 aM).1;obtain⟨s,hs,gp,iS,hm⟩:=h.mode aG;obtain⟨m1,m2,m3,m4,m5,m6,m7⟩:=hm.Dc hlt fg;have aH:ic≠i:=λe=>by have:=(Mode.waits hm).2;rw[e,fg]at this;cases this
 have rB:p.c≠p.Wg:=h.phase.2.2.1;have v9:a.block=p.Wg:=by rcases zG with rfl|rfl<;>rfl
 have jF:∀b,b≠p.Wg->w'.heap[b]?=w.heap[b]?:=λb hb=>by
  rcases nM with rfl|⟨x,rfl⟩
  ·rfl
  ·exact wh _ _ _ (by rw[v9];exact Ne.symm hb)
 refine h.EG aG hs hi aM aQ hd ha zG nM hk (by rw[hv];exact Gy _) (λx=>by rw[xM]at x;cases x) cZ uI (.inr (.inr fg)) m1 ?_ uS;have e1:sumTo gs.size (λa=>(upd K i k' a).cnt)=0:=by have:=AX K k' GS.cnt hlt;simp only[o6,aj0,m4]at this;omega
 unfold Mode;simp only[ba _ _ aH,e1,jF _ rB];rcases tg with⟨x1,x2,x3⟩|⟨x1,x2,x3⟩
 ·have e2:sumTo gs.size (λa=>(upd K i k' a).late)=1:=by have:=AX K k' GS.late hlt;simp only[fg,x1,m3]at this;omega
  refine .inr (.inr (.inl ⟨m1,m2,e2,trivial,m5,λm hm dK=> ?_,λm hm dK=> ?_⟩))
  ·by_cases cV:m=i
   ·subst cV;rw[bx]at dK;exact x2 dK
   ·rw[ba _ _ cV]at dK;have:=abr m3 hlt hm cV fg;rw[<- GS.mu]at this;rcases dK with e|e<;>rw[e]at this<;>cases this
  ·by_cases cV:m=i
   ·subst cV;rw[bx]at dK;exact x3 dK
   ·rw[ba _ _ cV]at dK;have:=abr m3 hlt hm cV fg;rw[<- GS.mu,dK]at this;cases this
 ·have e2:sumTo gs.size (λa=>(upd K i k' a).late)=0:=by have:=AX K k' GS.late hlt;simp only[fg,x1,m3]at this;omega
  exact .inr (.inr (.inr (.inl ⟨m1,m2,e2,trivial,x2,x3,m5⟩)))
theorem Inv.amS(h:Inv P n0 W0 V gs w t K Im ic (some p) st)(aG:p.recv=true){i n:Nat}{gi:SG}(hi:0<i)(aM:gs[i]?=some gi)(hK:K i=.load n)(jJ:Eg P p.Wg (UT t i) gi):gB P n0 W0 V gs w sl t K Im ic (some p) st i:=by
 have hlt:i<gs.size:=(SS.1 aM).1;obtain⟨s,hs,gp,iS,hm⟩:=h.mode aG;have fg:(K i).late=1:=by rw[hK];rfl
 obtain⟨m1,m2,m3,m4,m5,m6,m7⟩:=hm.Dc hlt fg;obtain⟨hd,bH,g',aQ,n',cH⟩:=jJ;have hW:=m6 (by rw[hK];exact .inl rfl);exact h.Mm aG (k':=.store n') (a:=dV p.Wg) hi aM (aQ w hW) hd (.inl rfl) (.inl rfl) (.inl rfl) cH rfl rfl (by rw[hK];rfl) (by rw[hK];rfl) rfl rfl fg (.inl ⟨rfl,λ_=>hW,λx=>by cases x⟩) (by rw[hK];exact .inl (by simp[GS.c_]))
theorem Inv.aq3(h:Inv P n0 W0 V gs w t K Im ic (some p) st)(aG:p.recv=true){i n:Nat}{gi:SG}(hi:0<i)(aM:gs[i]?=some gi)(hK:K i=.store n)(jJ:Ei P p.Wg (UT t i) gi):gB P n0 W0 V gs w sl t K Im ic (some p) st i:=by
 have hlt:i<gs.size:=(SS.1 aM).1;obtain⟨s,hs,gp,iS,hm⟩:=h.mode aG;have fg:(K i).late=1:=by rw[hK];rfl
 obtain⟨m1,m2,m3,m4,m5,m6,m7⟩:=hm.Dc hlt fg;obtain⟨hd,bH,g',aQ,n',cH⟩:=jJ;have hW:=m6 (by rw[hK];exact .inr rfl);exact h.Mm aG (k':=.my n') (a:=dV p.Wg) hi aM (aQ w hW) hd (.inr (.inl rfl)) (.inl rfl) (.inr ⟨_,rfl⟩) cH rfl rfl (by rw[hK];rfl) (by rw[hK];rfl) rfl rfl fg (.inl ⟨rfl,λx=>(x.elim (λy=>by cases y) (λy=>by cases y)),λ_=>hW.Hk 0⟩) (by rw[hK];exact .inl (by simp[GS.c_]))
theorem Inv.aqh(h:Inv P n0 W0 V gs w t K Im ic (some p) st)(aG:p.recv=true){i n:Nat}{gi:SG}(hi:0<i)(aM:gs[i]?=some gi)(hK:K i=.my n)(jJ:Eh P p.Wg (UT t i) gi):gB P n0 W0 V gs w sl t K Im ic (some p) st i:=by
 have hlt:i<gs.size:=(SS.1 aM).1;obtain⟨s,hs,gp,iS,hm⟩:=h.mode aG;have fg:(K i).late=1:=by rw[hK];rfl
 obtain⟨m1,m2,m3,m4,m5,m6,m7⟩:=hm.Dc hlt fg;obtain⟨hd,bH,KY,g',aQ,q,mj⟩:=jJ;have hW:=m7 (by rw[hK];rfl);have aH:ic≠i:=λe=>by have:=(Mode.waits hm).2;rw[e,fg]at this;cases this
 refine h.Mm aG (k':=.gone q) (a:=oK p.Wg) hi aM (aQ w hW) hd (.inr (.inr (.inr rfl))) (.inr rfl) (.inr ⟨_,rfl⟩) mj rfl rfl (by rw[hK];rfl) (by rw[hK];rfl) rfl rfl fg (.inr ⟨rfl,hW.acu 1,λg hg=> ?_⟩) (by rw[hK];exact .inl (by simp[GS.c_]));rcases getElem?_next hlt hg with⟨e,_⟩|⟨_,y,hy,rfl⟩
 ·exact absurd e aH
 ·have xU:=h.is ic y gp hy;simp only at xU;have dK:(∃n,K ic=.said n)\/∃n,K ic=.ig n:=by
   cases xE:K ic<;>rw[xE]at m5<;>simp[GS.shape]at m5
   ·exact .inl ⟨_,rfl⟩
   ·exact .inr ⟨_,rfl⟩
  rcases dK with⟨n1,e⟩|⟨n1,e⟩
  ·rw[e]at xU;have hr:y.status=.running:=h_.running (λd g x=>x.2.1) xU;rw[Yh hr];exact hr
  ·rw[e]at xU;rcases xU with xU|⟨_,g1,rfl,Kv⟩
   ·have hr:y.status=.running:=cS.running (λd g x=>x.2.1) xU;rw[Yh hr];exact hr
   ·have KB:g'.status=.running\/g'.status=.finished:=ZD mj;unfold woken;have ajZ:(mayWake P gi&&g'.status != .blocked&&g'.status != .waiting)=true:=(by rcases KB with hs|hs<;>simp[KY,hs]);rw[if_pos ajZ];unfold YR;have:=Kv.2.2.1;simp[this]
theorem Mode.afa{c Wg N k:Nat}{s:eg}(hm:Mode P c Wg N w gs t K ic s)(e:(K ic).shape=.head k 0):
  (∃n,w.heap[c]?=some (.chan 0 #[] false n n false))/\s=.early/\(sumTo N λi=>(K i).late)=0/\(sumTo N λi=>(K i).cnt)<=4/\WgAt P Wg w (((sumTo N λi=>(K i).cnt:Nat):Int)* KK) 0/\(sumTo N λi=>(K i).cnt)<k:=by
 unfold Mode at hm;simp only[e]at hm;rcases hm with m|m|m|m|m|m|m
 ·obtain⟨a,b,c,d,f,x⟩:=m;refine⟨a,b,c,d,f,?_⟩;rcases x with⟨k',x,y⟩|⟨v,x,_⟩
  ·cases x;exact y
  ·cases x
 ·rcases m.2.2.2.2.2.2 with x|x<;>cases x
 ·rcases m.2.2.2.2.1 with x|x<;>cases x
 ·rcases m.2.2.2.2.2.2 with x|x<;>cases x
 ·rcases m.2.2.2.2.2 with x|x<;>cases x
 ·rcases m.2.2.2.2 with x|x<;>cases x
 ·cases m.2.2.2
theorem Mode.ae9{c Wg N v:Nat}{s:eg}(hm:Mode P c Wg N w gs t K ic s)(e:(K ic).shape=.mc v 0):
  (∃n,w.heap[c]?=some (.chan 0 #[] false n n false))/\s=.early/\(sumTo N λi=>(K i).late)=0/\(sumTo N λi=>(K i).cnt)<=4/\WgAt P Wg w (((sumTo N λi=>(K i).cnt:Nat):Int)* KK) 0/\(sumTo N λi=>(K i).cnt)<=v/\0<v:=by
 unfold Mode at hm;simp only[e]at hm;rcases hm with m|m|m|m|m|m|m
 ·obtain⟨a,b,c,d,f,x⟩:=m;refine⟨a,b,c,d,f,?_⟩;rcases x with⟨k',x,y⟩|⟨v,x,y⟩
  ·cases x
  ·cases x;exact y
 ·rcases m.2.2.2.2.2.2 with x|x<;>cases x
 ·rcases m.2.2.2.2.1 with x|x<;>cases x
 ·rcases m.2.2.2.2.2.2 with x|x<;>cases x
 ·rcases m.2.2.2.2.2 with x|x<;>cases x
 ·rcases m.2.2.2.2 with x|x<;>cases x
 ·cases m.2.2.2
theorem Mode.OC{c Wg N:Nat}{s:eg}(hm:Mode P c Wg N w gs t K ic s)(e:(K ic).shape=.last 0\/(K ic).shape=.acq 0):
  (∃n,w.heap[c]?=some (.chan 0 #[] false n n false))/\s=.early/\(sumTo N λi=>(K i).late)=0/\(sumTo N λi=>(K i).cnt)=0/\WgAt P Wg w 0 0:=by
 unfold Mode at hm;rcases hm with m|m|m|m|m|m|m
 ·rcases m.2.2.2.2.2 with⟨_,x,_⟩|⟨_,x,_⟩<;>rcases e with e|e<;>rw[e]at x<;>cases x
 ·rcases m.2.2.2.2.2.2 with x|x<;>rcases e with e|e<;>rw[e]at x<;>cases x
 ·rcases m.2.2.2.2.1 with x|x<;>rcases e with e|e<;>rw[e]at x<;>cases x
 ·rcases m.2.2.2.2.2.2 with x|x<;>rcases e with e|e<;>rw[e]at x<;>cases x
 ·exact⟨m.1,m.2.1,m.2.2.1,m.2.2.2.1,m.2.2.2.2.1⟩
 ·rcases m.2.2.2.2 with x|x<;>rcases e with e|e<;>rw[e]at x<;>cases x
 ·have x:=m.2.2.2;rcases e with e|e<;>rw[e]at x<;>cases x
theorem Mode.OD{c Wg N:Nat}{s:eg}(hm:Mode P c Wg N w gs t K ic s)(e:(K ic).shape=.look 0\/(K ic).shape=.close 0):
  (∃n,w.heap[c]?=some (.chan 0 #[] false n n false))/\s=.got/\(sumTo N λi=>(K i).late)=0/\(sumTo N λi=>(K i).cnt)=0:=by
 unfold Mode at hm;rcases hm with m|m|m|m|m|m|m
 ·rcases m.2.2.2.2.2 with⟨_,x,_⟩|⟨_,x,_⟩<;>rcases e with e|e<;>rw[e]at x<;>cases x
 ·rcases m.2.2.2.2.2.2 with x|x<;>rcases e with e|e<;>rw[e]at x<;>cases x
 ·rcases m.2.2.2.2.1 with x|x<;>rcases e with e|e<;>rw[e]at x<;>cases x
 ·rcases m.2.2.2.2.2.2 with x|x<;>rcases e with e|e<;>rw[e]at x<;>cases x
 ·rcases m.2.2.2.2.2 with x|x<;>rcases e with e|e<;>rw[e]at x<;>cases x
 ·exact⟨m.1,m.2.1,m.2.2.1,m.2.2.2.1⟩
 ·have x:=m.2.2.2;rcases e with e|e<;>rw[e]at x<;>cases x
theorem Mode.OE{c Wg N:Nat}{s:eg}(hm:Mode P c Wg N w gs t K ic s)(e:(K ic).shape=.said 0\/(K ic).shape=.ig 0):
  (∃n,w.heap[c]?=some (.chan 0 #[] false n n false))/\s=.early/\((∃st,WgAt P Wg w st 0)\/((sumTo N λi=>(K i).late)=0/\(sumTo N λi=>(K i).cnt)=0/\WgAt P Wg w 0 1))/\
  ∀{w':Tp}{gs':Array SG}{u:Um}{k':GS},(k'.shape=.said 0\/k'.shape=.ig 0)->w'.heap[c]?=w.heap[c]?->w'.heap[Wg]?=w.heap[Wg]?->(WgAt P Wg w 0 1->∀g,gs'[ic]?=some g->g.status=.running)->ic<N->Mode P c Wg N w' gs' (t++u) (upd K ic k') ic s:=by
 have wait:∀{k:GS},(k.shape=.said 0\/k.shape=.ig 0)->k.cnt=0/\k.late=0:=λ{k} h=>by rw[<- GS.nh,<- GS.mu];rcases h with h|h<;>rw[h]<;>exact⟨rfl,rfl⟩
 have tail:∀(w':Tp)(gs':Array SG)(u:Um)(k':GS),(k'.shape=.said 0\/k'.shape=.ig 0)->w'.heap[c]?=w.heap[c]?->w'.heap[Wg]?=w.heap[Wg]?->(WgAt P Wg w 0 1->∀g,gs'[ic]?=some g->g.status=.running)->ic<N->Mode P c Wg N w' gs' (t++u) (upd K ic k') ic s:=by
  intro w' gs' u k' hk hc hW hr fS;have e1:sumTo N (λi=>(upd K ic k' i).cnt)=sumTo N λi=>(K i).cnt:=lA K k' GS.cnt (by rw[(wait hk).1,(wait e).1]);have e2:sumTo N (λi=>(upd K ic k' i).late)=sumTo N λi=>(K i).late:=lA K k' GS.late (by rw[(wait hk).2,(wait e).2]);have e3:∀st sm,WgAt P Wg w' st sm=WgAt P Wg w st sm:=λst sm=>by unfold WgAt;rw[hW]
  have e5:∀i (q:GS),(q=.load 0\/q=.store 0\/q=.my 0)->(upd K ic k' i).shape=q->(K i).shape=q:=λi q hq hs=>by
   by_cases hi:i=ic
   ·subst hi;rw[bx]at hs;rcases hk with x|x<;>rw[x]at hs<;>subst hs<;>rcases hq with y|y|y<;>cases y
   ·rw[ba _ _ hi]at hs;exact hs
  unfold Mode at hm⊢;simp only[e1,e2,e3,hc,bx];rcases hm with m|m|m|m|m|m|m
  ·rcases m.2.2.2.2.2 with⟨_,x,_⟩|⟨_,x,_⟩<;>rcases e with e|e<;>rw[e]at x<;>cases x
  ·exact .inr (.inl ⟨m.1,m.2.1,m.2.2.1,m.2.2.2.1,m.2.2.2.2.1,m.2.2.2.2.2.1,hk⟩)
  ·exact .inr (.inr (.inl ⟨m.1,m.2.1,m.2.2.1,m.2.2.2.1,hk,λi hi x=>m.2.2.2.2.2.1 i hi (x.imp (e5 i _ (.inl rfl)) (e5 i _ (.inr (.inl rfl)))),λi hi x=>m.2.2.2.2.2.2 i hi (e5 i _ (.inr (.inr rfl)) x)⟩))
  ·exact .inr (.inr (.inr (.inl ⟨m.1,m.2.1,m.2.2.1,m.2.2.2.1,m.2.2.2.2.1,hr m.2.2.2.2.1,hk⟩)))
  ·rcases m.2.2.2.2.2 with x|x<;>rcases e with e|e<;>rw[e]at x<;>cases x
  ·rcases m.2.2.2.2 with x|x<;>rcases e with e|e<;>rw[e]at x<;>cases x
  ·have x:=m.2.2.2;rcases e with e|e<;>rw[e]at x<;>cases x
 have iT:=hm;unfold Mode at hm;rcases hm with m|m|m|m|m|m|m
 ·rcases m.2.2.2.2.2 with⟨_,x,_⟩|⟨_,x,_⟩<;>rcases e with e|e<;>rw[e]at x<;>cases x
 ·exact⟨m.1,m.2.1,.inl ⟨_,m.2.2.2.2.2.1⟩,λ{w'} {gs'} {u} {k'}=>tail w' gs' u k'⟩
 ·refine⟨m.1,m.2.1,.inl ?_,λ{w'} {gs'} {u} {k'}=>tail w' gs' u k'⟩;have:∃i,i<N/\(K i).late=1:=by
   apply Tm;intro fw;have hz:sumTo N (λi=>(K i).late)=sumTo N λ_=>0:=Vp λi hi=>by
    have aH:¬(K i).late=1:=λx=>fw ⟨i,hi,x⟩;cases k_:K i<;>rw[k_]at aH<;>first|rfl|exact absurd rfl aH
   have h0:sumTo N (λ_=>0)=0:=by
    have:∀N,sumTo N (λ_=>0)=0:=λN=>(by induction N with|zero=>rfl|succ N ih=>simp[sumTo,ih]);exact this N
   have:=m.2.2.1;omega
  obtain⟨i,hi,fg⟩:=this;obtain⟨_,_,_,_,_,m6,m7⟩:=iT.Dc hi fg;cases k_:K i<;>rw[k_]at fg m6 m7<;>simp[GS.late]at fg
  ·exact⟨1,m6 (.inl rfl)⟩
  ·exact⟨1,m6 (.inr rfl)⟩
  ·exact⟨0,m7 rfl⟩
 ·exact⟨m.1,m.2.1,.inr ⟨m.2.2.1,m.2.2.2.1,m.2.2.2.2.1⟩,λ{w'} {gs'} {u} {k'}=>tail w' gs' u k'⟩
 ·rcases m.2.2.2.2.2 with x|x<;>rcases e with e|e<;>rw[e]at x<;>cases x
 ·rcases m.2.2.2.2 with x|x<;>rcases e with e|e<;>rw[e]at x<;>cases x
 ·have x:=m.2.2.2;rcases e with e|e<;>rw[e]at x<;>cases x
theorem Gx(Im:cw):mE {noView with ab:=Im} {noView with ab:=Im}:=⟨λ_=> .inr rfl,λ_ _=> .inr rfl,λ_ _ _=>rfl⟩
theorem amD(Im:cw):mE noView {noView with ab:=Im}:=⟨λ_=> .inr rfl,λ_ _=> .inl rfl,λb hb=>absurd rfl hb⟩
theorem Inv.zi(h:Inv P n0 W0 V gs w t K Im ic (some p) st)(aG:p.recv=true){gi bC:SG}{es:Array Ur}{k':GS}{a:U5}{s:eg}(hs:st=some s)(aM:gs[ic]?=some gi)(aQ:stepG P false gi w=.go bC w' es)(hd:UT t ic=1)
  (ha:Atom a es) (zG:a=dV p.Wg\/a=oK p.Wg) (nM:w'=w\/∃x,w'=w.setCell a x) (hk:k'.is P p.c p.Wg Im p.Ss 1 bC) (hv:k'.view Im={noView with ab:=Im}) (yb:(K ic).view Im={noView with ab:=Im}) (cZ:k'.idx=none) (uI:(K ic).idx=none)
  (gJ:∃n,w.heap[p.c]?=some (.chan 0 #[] false n n false))
  (xX:Mode P p.c p.Wg gs.size w' ((gs.map (woken P gi bC w')).setIfInBounds ic bC) (t++Ta ic gi.frame.fn gi.frame.place es) (upd K ic k') ic s) (uS:qU k'.c_ (K ic).c_):gB P n0 W0 V gs w sl t K Im ic (some p) st ic:=by
 obtain⟨s',_,gp,_,_⟩:=h.mode aG;exact h.EG aG hs gp aM aQ hd ha zG nM hk (by rw[hv,yb];exact Gx Im) (λ_=>rfl) cZ uI (.inl rfl) gJ xX uS
theorem Inv.akk(h:Inv P n0 W0 V gs w t K Im ic (some p) st)(aG:p.recv=true){k n:Nat}{gi:SG}(aM:gs[ic]?=some gi)(hK:K ic=.head k n)(jJ:eF P Im p.c p.Wg k (UT t ic) gi):gB P n0 W0 V gs w sl t K Im ic (some p) st ic:=by
 obtain⟨s,hs,gp,iS,hm⟩:=h.mode aG;obtain⟨m1,m2,m3,m4,m5,m6⟩:=hm.afa (k:=k) (by rw[hK];rfl);obtain⟨k,rfl⟩:∃k',k=k'+1:=⟨k-1,by omega⟩;obtain⟨hd,bH,F9⟩:=eF.succ _ _ _ _ jJ;obtain⟨g',aQ,hz,K4⟩:=F9 _ (by omega) m4;have lR:=aQ w m5;have uq:∀k':GS,k'.cnt=0->k'.late=0->sumTo gs.size (λi=>(upd K ic k' i).cnt)=(sumTo gs.size λi=>(K i).cnt)/\sumTo gs.size (λi=>(upd K ic k' i).late)=(sumTo gs.size λi=>(K i).late):=λk' h1 h2=>
  ⟨lA K k' GS.cnt (by rw[h1,hK];rfl),lA K k' GS.late (by rw[h2,hK];rfl)⟩
 by_cases hv:(sumTo gs.size λi=>(K i).cnt)=0
 ·obtain⟨n',cH⟩:=hz hv;refine h.zi aG (k':=.acq n') (a:=dV p.Wg) hs aM lR hd (.inl rfl) (.inl rfl) (.inl rfl) cH rfl (by rw[hK];rfl) rfl (by rw[hK];rfl) m1 ?_ (by rw[hK];exact .inl (by simp[GS.c_];omega));unfold Mode;simp only[(uq (.acq n') rfl rfl).1,(uq (.acq n') rfl rfl).2,bx];refine .inr (.inr (.inr (.inr (.inl ⟨m1,m2,m3,hv,?_,.inr rfl⟩))));rw[hv]at m5;simpa using m5
 ·obtain⟨n',cH⟩:=K4 hv;refine h.zi aG (k':=.mc (sumTo gs.size λi=>(K i).cnt) n') (a:=dV p.Wg) hs aM lR hd (.inl rfl) (.inl rfl) (.inl rfl) cH rfl (by rw[hK];rfl) rfl (by rw[hK];rfl) m1 ?_ (by rw[hK];exact .inl (by simp[GS.c_];omega));unfold Mode;simp only[(uq (.mc _ n') rfl rfl).1,(uq (.mc _ n') rfl rfl).2,bx];exact .inl ⟨m1,m2,m3,m4,m5,.inr ⟨_,rfl,SQ _,by omega⟩⟩
theorem Inv.agd(h:Inv P n0 W0 V gs w t K Im ic (some p) st)(aG:p.recv=true){v n:Nat}{gi:SG}(aM:gs[ic]?=some gi)(hK:K ic=.mc v n)(jJ:Ed P p.c p.Wg Im v (UT t ic) gi):gB P n0 W0 V gs w sl t K Im ic (some p) st ic:=by
 obtain⟨s,hs,gp,iS,hm⟩:=h.mode aG;obtain⟨m1,m2,m3,m4,m5,m6,m7⟩:=hm.ae9 (v:=v) (by rw[hK];rfl);obtain⟨hd,bH,⟨g1,F8,n1,alr⟩,akE⟩:=jJ;have rB:p.c≠p.Wg:=h.phase.2.2.1;have uq:∀k':GS,k'.cnt=0->k'.late=0->sumTo gs.size (λi=>(upd K ic k' i).cnt)=(sumTo gs.size λi=>(K i).cnt)/\sumTo gs.size (λi=>(upd K ic k' i).late)=(sumTo gs.size λi=>(K i).late):=λk' h1 h2=>
  ⟨lA K k' GS.cnt (by rw[h1,hK];rfl),lA K k' GS.late (by rw[h2,hK];rfl)⟩
 by_cases hv:(sumTo gs.size λi=>(K i).cnt)=v
 ·refine h.zi aG (k':=.said n1) (a:=dV p.Wg) hs aM (F8 w (by rw[<- hv];exact m5)) hd (.inr (.inr (.inl rfl))) (.inl rfl) (.inr ⟨_,rfl⟩) alr rfl (by rw[hK];rfl) rfl (by rw[hK];rfl) m1 ?_ (by rw[hK];exact .inl (by simp[GS.c_];omega));unfold Mode;simp only[(uq (.said n1) rfl rfl).1,(uq (.said n1) rfl rfl).2,bx];refine .inr (.inl ⟨?_,m2,m3,by omega,m4,?_,.inl rfl⟩)
  ·obtain⟨n,hn⟩:=m1;exact⟨n,by rw[wh _ _ _ (Ne.symm rB)];exact hn⟩
  ·rw[hv];exact m5.Hk _
 ·obtain⟨g',lR,n',cH⟩:=akE (sumTo gs.size λi=>(K i).cnt) (by omega);refine h.zi aG (k':=.head v n') (a:=dV p.Wg) hs aM (lR w m5) hd (.inl rfl) (.inl rfl) (.inl rfl) cH rfl (by rw[hK];rfl) rfl (by rw[hK];rfl) m1 ?_ (by rw[hK];exact .inl (by simp[GS.c_]));unfold Mode;simp only[(uq (.head v n') rfl rfl).1,(uq (.head v n') rfl rfl).2,bx];exact .inl ⟨m1,m2,m3,m4,m5,.inl ⟨v,rfl,by omega⟩⟩
theorem Inv.amc(h:Inv P n0 W0 V gs w t K Im ic (some p) st)(aG:p.recv=true){n:Nat}{gi:SG}(aM:gs[ic]?=some gi)(hK:K ic=.last n)(jJ:HV P Im p.c p.Wg (UT t ic) gi):gB P n0 W0 V gs w sl t K Im ic (some p) st ic:=by
 obtain⟨s,hs,gp,iS,hm⟩:=h.mode aG;obtain⟨m1,m2,m3,m4,m5⟩:=hm.OC (.inl (by rw[hK];rfl));obtain⟨hd,bH,g',aQ,n',cH⟩:=jJ;refine h.zi aG (k':=.acq n') (a:=dV p.Wg) hs aM (aQ w m5) hd (.inl rfl) (.inl rfl) (.inl rfl) cH rfl (by rw[hK];rfl) rfl (by rw[hK];rfl) m1 ?_ (by rw[hK];exact .inl (by simp[GS.c_]));unfold Mode;have e1:sumTo gs.size (λi=>(upd K ic (.acq n') i).cnt)=0:=by rw[lA K (.acq n') GS.cnt (by rw[hK];rfl)];exact m4
 have e2:sumTo gs.size (λi=>(upd K ic (.acq n') i).late)=0:=by rw[lA K (.acq n') GS.late (by rw[hK];rfl)];exact m3
 simp only[e1,e2,bx];exact .inr (.inr (.inr (.inr (.inl ⟨m1,m2,trivial,trivial,m5,.inr rfl⟩))))
theorem Inv.agy(h:Inv P n0 W0 V gs w t K Im ic (some p) st)(aG:p.recv=true){n:Nat}{gi:SG}(aM:gs[ic]?=some gi)(hK:K ic=.ig n)(jJ:Ef P Im p.c p.Wg (UT t ic) gi):gB P n0 W0 V gs w sl t K Im ic (some p) st ic:=by
 obtain⟨s,hs,gp,iS,hm⟩:=h.mode aG;obtain⟨m1,m2,m3,mk⟩:=hm.OE (.inr (by rw[hK];rfl));obtain⟨hd,bH,akP,v9,g',aac,n',cH⟩:=jJ;have rB:p.c≠p.Wg:=h.phase.2.2.1;rcases m3 with⟨stv,hW⟩|⟨m4,m5,hW⟩
 ·
  have aQ:=v9 w stv hW;have akJ:¬WgAt P p.Wg w 0 1:=λx=>by have:=(hW.inj x).2;cases this
  refine h.tW aG (k':=.ig 0) (s':=s) gp aM aQ (.inr ⟨rfl,gi,rfl,by rw[hd];exact⟨rfl,bH,akP,v9,g',aac,n',cH⟩⟩) (by rw[hK];exact Gx Im) (λ_=>rfl) rfl (λj hj=>by rw[hK]at hj;cases hj) (.inl rfl) (by simp) (by simp) (by simp) rfl (λ_ _ _=>rfl) rfl rfl rfl
   (mk (.inr rfl) rfl rfl (λx=>absurd x akJ) iS) (.inl m1) ?_ ?_
  ·have e0:t++Ta ic gi.frame.fn gi.frame.place #[]=t:=(by simp[Ta]);have hr:Rest p.Wg t K ic st:=h.out.2.2.1;rw[hs]at hr;refine hr.app (λidx a ha hx=> .inr (hx.app (by obtain⟨op,ay,_⟩:=UU ha;exact TJ ay) λm _ _ hj=> .inl ?_)) (λidx a _ ⟨op,ay,_⟩ _=>by simp[Ta]at ay);by_cases cV:m=ic
   ·subst cV;rw[hK]at hj;cases hj
   ·rw[ba _ _ cV];exact hj
  ·by_cases hn:n=0
   ·refine .inr ⟨funext λj=> ?_,?_⟩
    ·by_cases hj:j=ic
     ·subst hj;simp only[bx,hK,hn]
     ·simp only[ba _ _ hj]
    ·simp only[flag];rw[S_ (by simpa using iS),aM];simp[bH]
   ·exact yp iS (by rw[hK];exact .inr ⟨rfl,.inr ⟨rfl,by simp only[GS.c_];omega⟩⟩)
 ·refine h.zi aG (k':=.last n') (a:=oK p.Wg) hs aM (aac w hW) hd (.inr (.inr (.inr rfl))) (.inr rfl) (.inr ⟨_,rfl⟩) cH rfl (by rw[hK];rfl) rfl (by rw[hK];rfl) m1 ?_ (by rw[hK];exact .inl (by simp[GS.c_]));unfold Mode;have e1:sumTo gs.size (λi=>(upd K ic (.last n') i).cnt)=0:=by rw[lA K (.last n') GS.cnt (by rw[hK];rfl)];exact m5
  have e2:sumTo gs.size (λi=>(upd K ic (.last n') i).late)=0:=by rw[lA K (.last n') GS.late (by rw[hK];rfl)];exact m4
  simp only[e1,e2,bx];obtain⟨n,hn⟩:=m1;exact .inr (.inr (.inr (.inr (.inl ⟨⟨n,by rw[wh _ _ _ (Ne.symm rB)];exact hn⟩,m2,trivial,trivial,hW.acu 0,.inl rfl⟩))))
theorem Inv.apY(h:Inv P n0 W0 V gs w t K Im ic (some p) st)(aG:p.recv=true){n:Nat}{gi:SG}(aM:gs[ic]?=some gi)(hK:K ic=.said n)(jJ:Ee P Im p.c p.Wg (UT t ic) gi):gB P n0 W0 V gs w sl t K Im ic (some p) st ic:=by
 obtain⟨s,hs,gp,iS,hm⟩:=h.mode aG;obtain⟨m1,m2,m3,mk⟩:=hm.OE (.inl (by rw[hK];rfl));obtain⟨hd,bH,g',aQ,n',cH⟩:=jJ;have nF:∀e∈#[j9 (.write (oK p.Wg))],e=j9 (.write (oK p.Wg)):=λe he=>by simpa using he
 have Sx:g'.status=.running:=cS.running (λd g x=>x.2.1) cH;refine h.tW aG (k':=.ig n') (s':=s) gp aM (aQ w) (.inl (by rw[hd];exact cH)) (by rw[hK];exact Gx Im) (λ_=>rfl) rfl (λj hj=>by rw[hK]at hj;cases hj) (.inl rfl) (λe he x hx=> .inr (.inl ?_)) (λe he=> ?_) (λe he a=> ?_) rfl (λ_ _ _=>rfl) rfl rfl rfl
  (mk (.inr rfl) rfl rfl (λ_ g hg=> ?_) iS) (.inl m1) ?_ (yp iS (by rw[hK];exact .inl (by simp[GS.c_])))
 ·rw[nF e he]at hx;cases hx;exact⟨rfl,rfl,rfl⟩
 ·rw[nF e he];exact h.low.2
 ·rw[nF e he];simp[j9,Ts]
 ·rcases getElem?_next iS hg with⟨_,rfl⟩|⟨aH,_⟩
  ·exact Sx
  ·exact absurd rfl aH
 ·have hr:Rest p.Wg t K ic st:=h.out.2.2.1;rw[hs,m2]at hr;rw[m2];refine hr.app (λidx a ha hx=> .inr (hx.app (by obtain⟨op,ay,_⟩:=UU ha;exact TJ ay) λm _ _ hj=> .inl ?_)) (λidx a _ ⟨op,ay,xS,_⟩ _=> .inr (.inr ⟨ic,?_,gp,.inr (.inl rfl)⟩))
  ·by_cases cV:m=ic
   ·subst cV;rw[hK]at hj;cases hj
   ·rw[ba _ _ cV];exact hj
  ·obtain⟨e,_,rfl⟩:=TM ay;simp[WB,xS]
end
end Go.Gg
